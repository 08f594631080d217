/- Part 1. No condition. -/
import Derived.KernelRfl
import Derived.Tactics2
import Derived.LaidSub
import Derived.LaidLaws
import Derived.LaidHandle
import Derived.Conc.Own
import Derived.Conc.Events
import Derived.Conc.Listed
import Derived.Laws.CopyRow
import Derived.Laws.AppendOwn
import Derived.Laws.Rows
import Derived.Laws.Strings
import Derived.Laws.Cells
import Derived.Lib.Strings
import Derived.Laws.Slices
import Derived.Orders
import Derived.Laws.StructEq
set_option linter.all false
set_option maxHeartbeats 8000000
open Go.Conc (G)
open List renaming length → c, range → aB, replicate → aU, getD_eq_getElem?_getD → ak
open Go renaming Value → Y, TypeId → al, Event → aO, undef → J, World → ar, Frame → aG, FuncId → a0, execOp → ab, Operand → ae, Program → aE, Goroutine → ai, stepG → ao, Oper → an
open Option renaming some → f, none → n
open Bool renaming true → l, false → v
open Nat renaming beq → ad, ble → ay
open Go.Region renaming wanted → aP, ready → aN
open Go.World renaming cell? → aH
open Go.Instr renaming sliceBounds → aT
open Go.Op renaming bytesLess → aR, equalIn → aL
open Go.Sem renaming events_bind → aD
open Go.Result renaming evThen_ok → aF
set_option linter.defProp false
set_option linter.deprecated false
namespace Go
def B:=@_root_.trivial
def bw:=@_root_.decide_eq_true_eq
def bH:=@_root_.List.getElem?_eq_getElem
def a9:=@_root_.and_true
def ba:=@_root_.true_and
def b_:=@_root_.List.mem_of_getElem?
def dp:=@_root_.decide_eq_false_iff_not
def cO:=@_root_.List.getElem?_eq_some_iff
def dn:=@_root_.Nat.eq_of_beq_eq_true
def cY:=@_root_.Int.toNat_natCast
def bC:=@_root_.Nat.le_refl
def ck:=@_root_.Bool.and_eq_true
def dk:=@_root_.List.length_append
def c8:=@_root_.Go.Result.andThen_ok
def cX:=@_root_.Nat.zero_add
def c6:=@_root_.List.take_length
def bj:=@_root_.if_neg
def bo:=@_root_.if_pos
def cJ:=@_root_.Go.Sem.run_bind
def hu:=@_root_.Array.getD_eq_getD_getElem?
def eZ:=@_root_.beq_eq_false_iff_ne
def gx:=@_root_.List.length_singleton
def eC:=@_root_.Nat.lt_of_lt_of_le
def fs:=@_root_.Nat.le_of_ble_eq_true
def g4:=@_root_.List.getElem_of_mem
def e3:=@_root_.Option.some.injEq
def hl:=@_root_.List.getElem?_append_right
def fh:=@_root_.List.length_cons
def g5:=@_root_.Nat.mul_le_mul_right
def jC:=@_root_.List.eq_nil_of_length_eq_zero
def ft:=@_root_.Bool.not_true
def dY:=@_root_.Go.Sem.run_pure
def gi:=@_root_.beq_self_eq_true
def dT:=@_root_.Nat.lt_or_ge
def iF:=@_root_.Array.getElem?_eq_getElem
def gY:=@_root_.List.mem_of_mem_take
def fi:=@_root_.decide_eq_true
def io:=@_root_.List.getElem?_set_self
def gJ:=@_root_.List.mem_singleton
def fx:=@_root_.List.mem_append
def jb:=@_root_.Array.getElem?_eq_some_iff
def hv:=@_root_.not_true_eq_false
def e9:=@_root_.List.mem_cons
def dm:=@_root_.if_false
def m8:=@_root_.List.pairwise_iff_getElem
def gK:=@_root_.List.length_nil
def iG:=@_root_.List.pairwise_cons
def j3:=@_root_.List.getElem?_append_left
def ip:=@_root_.bne_self_eq_false
def fP:=@_root_.Bool.true_and
def iq:=@_root_.List.getElem?_take
def hJ:=@_root_.Bool.not_false
def dv:=@_root_.if_true
def ir:=@_root_.List.mem_cons_self
def fQ:=@_root_.Nat.le_trans
def jc:=@_root_.Bool.not_eq_true'
def h0:=@_root_.Option.getD_some
def uy:=@_root_.List.take_append_drop
def j4:=@_root_.List.getElem?_toArray
def h1:=@_root_.List.append_nil
def p4:=@_root_.List.ext_getElem?
def kz:=@_root_.List.length_filter_le
def gL:=@_root_.beq_iff_eq
def kA:=@_root_.List.getElem?_set_ne
def uz:=@_root_.List.findIdx?_eq_some_iff_getElem
def eD:=@_root_.congrArg
def j5:=@_root_.Bool.false_eq_true
def iH:=@_root_.Nat.not_lt_zero
def iI:=@_root_.List.foldl_cons
def mg:=@_root_.List.getElem?_cons_zero
def hn:=@_root_.List.mem_map
def gZ:=@_root_.Nat.zero_le
def uA:=@_root_.List.take_add_one
def jd:=@_root_.List.mem_filter
def jD:=@_root_.Bool.or_eq_true
def kB:=@_root_.List.length_map
def m9:=@_root_.Array.length_toList
def mh:=@_root_.List.mem_cons_of_mem
def w6:=@_root_.Array.getElem?_replicate
def iJ:=@_root_.bne_iff_ne
def nZ:=@_root_.List.getElem?_cons_succ
def m_:=@_root_.List.pairwise_append
def AR:=@_root_.List.mem_iff_getElem
def mi:=@_root_.List.append_assoc
def sv:=@_root_.Nat.beq_refl
def dZ:=@_root_.ne_eq
def lD:=@_root_.decide_true
def lE:=@_root_.Option.map_some
def jE:=@_root_.Nat.add_mul
def p5:=@_root_.List.map_congr_left
def p6:=@_root_.not_false_eq_true
def j6:=@_root_.Nat.add_zero
def m':=@_root_.List.getElem?_map
def uB:=@_root_.Array.getElem?_setIfInBounds_self_of_lt
def sw:=@_root_.Array.getElem?_setIfInBounds_ne
def n0:=@_root_.Nat.eq_zero_or_pos
def na:=@_root_.decide_eq_false
def w7:=@_root_.Array.mapM_eq_mapM_toList
def n1:=@_root_.List.getElem?_set
def lF:=@_root_.Prod.mk.injEq
def nX:=@_root_.Option.bind_some
def pV:=@_root_.List.mem_of_mem_drop
def wP:=@_root_.Array.toArray_toList
def mf:=@_root_.List.map_cons
def nY:=@_root_.decide_false
def rb:=@_root_.Option.map_eq_some_iff
def pW:=@_root_.Nat.add_sub_cancel
def pX:=@_root_.List.getElem?_drop
def Ax:=@_root_.Option.isSome_iff_exists
def oW:=@_root_.Nat.succ_mul
def pY:=@_root_.Nat.mod_lt
def oX:=@_root_.Bool.eq_iff_iff
def sh:=@_root_.List.filter_eq_self
def re:=@_root_.Int.toNat_of_nonneg
def pZ:=@_root_.List.ext_getElem
def p0:=@_root_.Bool.not_eq_true
def oY:=@_root_.List.mapM_cons
def Ay:=@_root_.Bool.and_eq_false_iff
def R9:=@_root_.List.drop_eq_getElem_cons
def p1:=@_root_.List.nil_append
def si:=@_root_.Nat.div_lt_of_lt_mul
def rf:=@_root_.List.pairwise_map
def Az:=@_root_.bne_eq_false_iff_eq
def uo:=@_root_.Nat.le_mul_of_pos_right
def rg:=@_root_.List.mem_range
def rh:=@_root_.List.mem_flatMap
def sj:=@_root_.List.length_drop
def lC:=@_root_.true_or
def sk:=@_root_.Int.emod_lt_of_pos
def AA:=@_root_.Bool.not_eq_false'
def uq:=@_root_.UInt8.toNat_inj
def AB:=@_root_.Nat.ble_eq_true_of_le
def sl:=@_root_.List.flatMap_cons
def sm:=@_root_.Nat.sub_zero
def ur:=@_root_.Nat.div_add_mod'
def sn:=@_root_.List.not_mem_nil
def so:=@_root_.List.filter_cons
def wQ:=@_root_.List.mem_of_find?_eq_some
def wR:=@_root_.Nat.lt_succ_iff_lt_or_eq
def sq:=@_root_.Int.emod_nonneg
def us:=@_root_.List.find?_eq_none
def ut:=@_root_.of_decide_eq_true
def Gb:=@_root_.List.take_of_length_le
def wS:=@_root_.List.range_succ_eq_map
def uu:=@_root_.List.foldl_append
def sr:=@_root_.Bool.false_and
def wT:=@_root_.List.getElem?_eq_none
def wU:=@_root_.Array.mem_of_getElem?
def p3:=@_root_.Nat.not_lt
def R_:=@_root_.List.find?_eq_some_iff_getElem
def uv:=@_root_.List.drop_length
def uw:=@_root_.List.cons_append
def wV:=@_root_.Bool.or_eq_false_iff
def wW:=@_root_.List.length_set
def wX:=@_root_.Nat.mul_le_mul_left
def ss:=@_root_.Nat.sub_self
def AD:=@_root_.List.getElem?_concat_length
def Gc:=@_root_.List.length_eraseIdx_of_lt
def AE:=@_root_.List.mem_or_eq_of_mem_set
def AF:=@_root_.List.findIdx?_eq_none_iff
def Gd:=@_root_.List.set_eq_of_length_le
def su:=@_root_.Go.Sem.run_ite
def AG:=@_root_.Nat.add_sub_cancel_left
def wY:=@_root_.List.getElem_mem
def oZ:=@_root_.Ne.symm
def wZ:=@_root_.Nat.mul_comm
def ux:=@_root_.List.map_map
def Ge:=@_root_.List.drop_eq_nil_of_le
def AH:=@_root_.Array.getElem?_eq_none
def w0:=@_root_.Option.some.inj
def AI:=@_root_.List.contains_iff_mem
def Gf:=@_root_.Array.getElem?_toList
def AJ:=@_root_.Array.getElem?_modify
def AK:=@_root_.Nat.pow_le_pow_right
def AL:=@_root_.List.mem_append_left
def AN:=@_root_.List.getElem?_of_mem
def AO:=@_root_.Nat.add_sub_cancel'
def AP:=@_root_.List.length_pos_iff
def w5:=@_root_.Nat.lt_irrefl
def AQ:=@_root_.List.take_set
def bn{α:Sort _}{β:α→Sort _}{aj:(F:α)→β F}:∀F,aj F=aj F:=λ_=>rfl
def a{α:Sort _}{x:α}:x=x:=rfl
section
variable{S:Prop}
abbrev m.{bz}(α:Type bz):=List α
def w(t:S:=by omega):=t
def M(t:S:=by grind):=t
def D(t:S:=by simp):=t
def bQ(t:S:=by simp;omega):=t
def bU(t:S:=by kernel_rfl):=t
def ca(t:S:=by decide):=t
def ds(t:S:=by simp_all):=t
def ig(t:S:=by grind[ie]):=t
def hY(t:S:=by rw[bP.len];grind):=t
def sa(t:S:=by simp only[U,a7,bw,ba,a9];and_intros<;>omega):=t
def lx(t:S:=by simp[a7]):=t
def qU(t:S:=by simp[G,ao,stepG.exec,Frame.ab]):=t
def l9(t:S:=by simp only[phi];omega):=t
def tS(t:S:=by simp only[U,a7,ba,a9];omega):=t
def gH(t:S:=by simp[t]):=t
def Od(t:S:=by have h:F.data.toList.length=F.size:=m9;have u:bF.data.toList.length=bF.size:=m9;have aw:IntKind.i64.max=9223372036854775807:=rfl;have C:F.data.toList.length+bF.data.toList.length<=9223372036854775807:=cl;grind):=t
def mX(t:S:=by simp only[a7];omega):=t
def kT(t:S:=by simp[a7];omega):=t
def qZ(t:S:=by simp only[U,a9];omega):=t
def mY(t:S:=by apply p4;grind):=t
def Fg(t:S:=by show(aL (9999+1) o _ _).run P b.a=_;unfold aL;simp[underlying,C]):=t
def Ft(t:S:=by simp[bX,C,j,h,d,aj,a2.U,bg.U,a3.U,az.U,A];omega):=t
def wy(t:S:=by simp only[bV,cY];omega):=t
def aeQ(t:S:=by rw[x];simp only[jp,Ay,dp];omega):=t
def kU(t:S:=by simp[bX]):=t
def tV(t:S:=by rw[<-aY];decide +kernel):=t
def pK(t:S:=by grind[pC]):=t
def wz(t:S:=by grind[List.getElem_of_mem]):=t
def q0(t:S:=by cases he):=t
def q1(t:S:=by rw[cX];rfl):=t
def z4(t:S:=by grind[Me]):=t
def FH(t:S:=by rw[<-touchAt_old (u:=bz) (eC bp t.bO)];exact j):=t
def FI(t:S:=by rw[<-touchAt_old (u:=bz) (eC bp t.bO)];exact h):=t
def FJ(t:S:=by grind[D9]):=t
def P'(t:S:=by simp[-aX,-List.all_eq_false,bX,i,s,x,a2.U,bg.U,a3.U,aj,aw,C]):=t
def z5(t:S:=by intro y aY aeS;grind[ad_,Np]):=t
def oM(t:S:=by rfl):=t
def QE(t:S:=by show(aL (9999+1) o _ _).run P b.a=_;unfold aL;simp[underlying,j]):=t
def nN(t:S:=by simp;rfl):=t
def QZ(t:S:=by rw[Gf,iF (by omega:e<L.size)];simpa[hu,iF (by omega:e<L.size)]using H):=t
def tW(t:S:=by grind[j_]):=t
def Rj(t:S:=by refine X.J Tryz.func317 rfl λx=>?_;exact cz rfl (by simp[a7]) (g.ao rfl)):=t
def Rn(t:S:=by simp only[ab,t];exact dz.bind dz.buildSlice (λ_=>dz.pure) _ _):=t
def FK(t:S:=by simp[G,ao,stepG.exec,Frame.ab,t]):=t
def Ro(t:S:=by intro hQ aw s;match hQ,s with|0,_=>exact .inr (by simp[deafBehind])|hQ+1,s=>grind):=t
def wA(t:S:=by simp only[U,a7];omega):=t
def tX(t:S:=by simp[<-bP.len]):=t
def Rp(t:S:=by unfold hf;rw[mi];congr 1;rw[ie (by grind) (0,0)];grind):=t
def oN(t:S:=by simp[x]):=t
def FL(t:S:=by simp only[hu];grind):=t
def Rq(t:S:=by show -9223372036854775808<=_/\_<=9223372036854775807;unfold lq;omega):=t
def Rr(t:S:=by simp[ab,cl,resolve,invoke,builtin,Builtin.len_,aj,A,goInt,C]):=t
def z6(t:S:=by simp only[dR,sv]):=t
def Rs(t:S:=by unfold gd;rw[<-qM (d_ F.2)];exact H0 _):=t
def FM(t:S:=by grind[List.drop_eq_getElem_cons]):=t
def Rt(t:S:=by grind[Array.mapM_eq_mapM_toList,Sem.run_map,Go.Result.andThen_ok]):=t
def Ru(t:S:=by rw[show((b.2.1.length:Int)-1).toNat=b.2.1.length-1 by omega];rfl):=t
def pL(t:S:=by simp[O]):=t
def FN(t:S:=by simp only[U,a7,a9];omega):=t
def FO(t:S:=by rw[<-oW];exact g5 _ bp):=t
def r'(t:S:=by grind[nI]):=t
def wB(t:S:=by grind[my]):=t
def z7(t:S:=by simp[World.freeze,aj]):=t
def FP(t:S:=by simp[bX,a3.l,a3.U]):=t
def tY(t:S:=by simp[bs,aw]):=t
def Rv(t:S:=by rw[uA,<-abs];simp[ak,t]):=t
def tZ(t:S:=by grind[Nat.eq_of_beq_eq_true]):=t
def FQ(t:S:=by grind[List.take_append_drop]):=t
def z8(t:S:=by show _*24<=_;omega):=t
def wC(t:S:=by simpa using t):=t
def z9(t:S:=by unfold mI;grind):=t
def FR(t:S:=by simp[hF,i5,nB,jw]):=t
def FS(t:S:=by unfold jn;split<;>omega):=t
def Rw(t:S:=by simp[bX,bF,aa,ea,a2.U,bg.U,a3.U,a']):=t
def FT(t:S:=by simp[a2.l,bg.l,a3.l,az.l]):=t
def Rx(t:S:=by simp only[U,a7,ba,a9];and_intros<;>omega):=t
def FU(t:S:=by simp[bs]):=t
def Ry(t:S:=by intro aw s;simp at s;subst s;exact bk_cell _ _ rfl):=t
def z_(t:S:=by simp[aw]):=t
def FV(t:S:=by rw[Op.bytesLess.eq_def]):=t
def Rz(t:S:=by simp[n3,e,bu.l,bu.U,r2,aa]):=t
def RA(t:S:=by rw[<-h.bz i (λL W ea=>s ⟨L,W,ea⟩)];exact bl):=t
def z'(t:S:=by simpa using iK):=t
def t0(t:S:=by simp[jI]):=t
def RB(t:S:=by simp only[U,a7,ft,ba,a9];omega):=t
def Aa(t:S:=by cases op<;>rfl):=t
def RC(t:S:=by simp[ab,cl,resolve,invoke,builtin]):=t
def wD(t:S:=by simp[bV]):=t
def RD(t:S:=by simp only[U,a7,dp,ba,a9];omega):=t
def RE(t:S:=by simp only[U,a7,bw,ba,a9];omega):=t
def RF(t:S:=by rw[show IntKind.u64.bits=64 from rfl];omega):=t
def FW(t:S:=by rw[s];simp):=t
def RG(t:S:=by unfold ct;grind[List.take_append_drop]):=t
def RH(t:S:=by simp[ab,t,resolve,invoke,builtin]):=t
def RI(t:S:=by unfold dC;grind[List.take_append_drop]):=t
def FX(t:S:=by unfold fa;grind):=t
def Ab(t:S:=by simp[fk]):=t
def RJ(t:S:=by simp only[look];cases ad bz o<;>rfl):=t
def RK(t:S:=by simp only[U.X,U,j,u,gi,ba]):=t
def FY(t:S:=by rw[cH.aw.size];omega):=t
def EU(t:S:=by simp only[c9,i]):=t
def NM(t:S:=by simp only[U.X,U,aw,ba,a9]):=t
def NN(t:S:=by show(b.a.drew.heap.push _).size=_;simp):=t
def NO(t:S:=by rw[Gc (by simp;omega)];simp;omega):=t
def NP(t:S:=by have:=Lc ec;simp only[a7];omega):=t
def EV(t:S:=by unfold dq;omega):=t
def EW(t:S:=by simp[Act.eval,stA]):=t
def EX(t:S:=by simp only[dR,dE]):=t
def EY(t:S:=by simp only[dR,c5]):=t
def NQ(t:S:=by have:=Vc_upd y (⟨1,0,1⟩:WD) g';grind):=t
def wi(t:S:=by simp[mk]):=t
def NR(t:S:=by simp only[fu,jD,bw];grind):=t
def wj(t:S:=by rw[upd_same];simp):=t
def NS(t:S:=by simp[World.shape?,a'.heap _ _ a'.cS]):=t
def NT(t:S:=by simp[Frame.enter,Frame.ab,rD,cT,i]):=t
def NU(t:S:=by simp only[U];exact az.U _):=t
def NV(t:S:=by grind[run_store,setCell_eq_setRow]):=t
def aeM(t:S:=by simp[deafBehind]):=t
def EZ(t:S:=by simp[bV];omega):=t
def NW(t:S:=by simp only[U,ba,a9];omega):=t
def NX(t:S:=by unfold g2;rw[bj];grind):=t
def NY(t:S:=by unfold eS Region.binds;grind):=t
def NZ(t:S:=by simp[bX,I,a3.l,a3.U]):=t
def N1(t:S:=by simp[fy]):=t
def E0(t:S:=by simp only[gm,nx,bj t];rfl):=t
def N2(t:S:=by have:=eD List.length br;grind):=t
def zM(t:S:=by simp[aj]):=t
def E2(t:S:=by simp only;omega):=t
def N3(t:S:=by grind[Zc]):=t
def E3(t:S:=by grind[Option.isSome_iff_exists]):=t
def aeN(t:S:=by rw[<-oW];exact g5 _ G):=t
def N4(t:S:=by simpa using List.find?_some i):=t
def N5(t:S:=by simp[zeroValue,typeInfo,NG,a]):=t
def E4(t:S:=by grind[Ng]):=t
def E5(t:S:=by decide +kernel):=t
def N6(t:S:=by simp only[gm,nx,dv,e]):=t
def aeO(t:S:=by rw[JC C A aa];grind):=t
def aeP(t:S:=by simpa using aw):=t
def E6(t:S:=by simpa using O):=t
def N7(t:S:=by simp[aH,C,bp]):=t
def N8(t:S:=by simp only[ab,cl,u]):=t
def N9(t:S:=by simp only[U,dp];omega):=t
def N_(t:S:=by simp only[U,bw];omega):=t
def N'(t:S:=by rw[<-d];simp only[KK];omega):=t
def Oa(t:S:=by unfold fa at x⊢;grind):=t
def Ob(t:S:=by simp[deafBehind,semEvents]):=t
def E7(t:S:=by simp[ct]):=t
def Oc(t:S:=by simp[mq,List.drop_take]):=t
def E8(t:S:=by rw[io bS]):=t
def fv(t:S:=by and_intros<;>omega):=t
def iA(t:S:=by exact .aK (a1.eQ (d:=0) bb rfl rfl rfl rfl rfl) rfl):=t
def jX(t:S:=by rw[lG t M];simp):=t
def ku(t:S:=by exact dw _ _ rfl D):=t
def kv(t:S:=by refine g.b' () [0,1,2] ?_ nl;simp):=t
def oL(t:S:=by refine g.b' () [0,1] ?_ yc;simp):=t
def pJ(t:S:=by simp only[U];grind):=t
def qV(t:S:=by exact .aK (a1.fE rfl rfl Tryz.underlying22 rfl ca) rfl):=t
def qW(t:S:=by and_intros<;>first|rfl|omega):=t
def qX(t:S:=by show e+1<=_;omega):=t
def qY(t:S:=by simp only[U,cX,cY,aj,a7,bw,ba,a9];and_intros<;>omega):=t
def r8(t:S:=by refine g.freeze 4 1 rfl rfl rfl ?_;exact g.b8 bb [] rfl D rfl rfl rfl eG):=t
def r9(t:S:=by exact bY.di [0] rfl B rfl rfl rfl g_):=t
def r_(t:S:=by simp only[U,a7];and_intros<;>omega):=t
def tT(t:S:=by exact g.aH [0] rfl D sQ):=t
def tU(t:S:=by simp only[U.X,U,ba,a9];and_intros<;>first|exact bs.same|exact u.2|rfl):=t
def wl(t:S:=by simp only[U,x,a7,bw,ba,a9];and_intros<;>omega):=t
def wm(t:S:=by rw[wP]at this;exact this):=t
def wn(t:S:=by refine g.bN 6 rfl rfl rfl D D ?_;refine g.bN 7 rfl rfl rfl D D ?_;refine cU x rfl B ?_;refine g.b' () [0,1,2] ?_ nl;simp[h_,C]):=t
def wo(t:S:=by exactλu=>⟨.w,.w,.w,.eval (bh:=[]) bb x (cn:=[a7 .i64 _]) rfl lx,.eval (bh:=[]) bb x (cn:=[_,_]) rfl lx,.w,.w,B,.w,B⟩):=t
def wq(t:S:=by exact⟨.w,.w,.w,.eval (bh:=[]) bb x (cn:=[a7 .i64 _]) rfl lx,.eval (bh:=[]) bb x (cn:=[_,_]) rfl lx,.w,.w,B,B,B⟩):=t
def wt(t:S:=by simp[hu,w6];split<;>simp):=t
def wu(t:S:=by exact dX.cK (λ_ _ _ _=>i6 rfl) rfl rfl bz rfl D):=t
def wv(t:S:=by exact cU x rfl B (g.ao rfl)):=t
def ww(t:S:=by exact aW rfl B (g.ao rfl)):=t
def wx(t:S:=by refine g.eJ 3 ?_;refine g.cM 9 rfl (λ_=>rfl) ?_;refine g.ret ?_;exact⟨⟨_,bs.same⟩,.inl rfl,rfl,rfl,_,_,_,rfl,rfl,rfl,rfl⟩):=t
def zN(t:S:=by exact aW rfl D (g.bu ⟨(7,.inl d),by simp only;omega⟩ (g.aH [] rfl D eG))):=t
def zO(t:S:=by exact aW rfl D (g.bu ⟨(7,.inr (S,V)),by simp only;omega⟩ (g.aH [] rfl D eG))):=t
def zP(t:S:=by rw[ofEvent_loc_mark bl]at s;cases s):=t
def zQ(t:S:=by rw[i];simp only[aj];simp;exact O):=t
def zR(t:S:=by refine g.bf () [] ?_ (λu i=>absurd i D);simp):=t
def zS(t:S:=by and_intros<;>first|exact j|omega):=t
def zT(t:S:=by grind [SB,aZ.a0,a1.bits]):=t
def zU(t:S:=by refine g.freeze 8 1 rfl rfl rfl ?_;exact g.b8 bb [] rfl D rfl rfl rfl eG):=t
def zV(t:S:=by rw[s];simp only[U.X,U,O,dk,gx,ba,a9];and_intros<;>first|exact bs.same|exact aj bF|rfl|omega):=t
def zW(t:S:=by rw[U,ZJ t aeQ]):=t
def zX(t:S:=by simp only[U,a7,dp,ba,a9];and_intros<;>omega):=t
def zY(t:S:=by simp only[U,cX,cY,bz,bl,a7,bw,ba,a9];and_intros<;>omega):=t
def zZ(t:S:=by exact a5 [-16] rfl bE (g.av (e+1) rfl D D M w)):=t
def z0(t:S:=by refine g.aB (qi b x.aY x.bm x.aZ x.bp x.aJ) [] rfl ?_;refine cU s rfl B ?_;refine g.freeze 8 1 rfl rfl rfl ?_;refine g.b8 bb [] rfl ?_ rfl rfl rfl eG;simp):=t
def z1(t:S:=by simp only[U,a2.l,a2.U,bg.l,bg.U,a3.l,a3.U,az.l,az.U,bu.l,bu.U,x,s,r2,O,i,ft,hJ,ba,a9];simp):=t
def z2(t:S:=by simp only[U,aj,a7,show d8.bytes=8 from rfl,bw,dp,gL,eZ,iJ,Az,dZ];and_intros<;>first|rfl|omega|(simp[g7,iK];done)):=t
def z3(t:S:=by simp only[U,cX,cY,C,a7,bw,ba,a9];and_intros<;>omega):=t
def E9(t:S:=by exact⟨by omega,by omega,by grind[Md]⟩):=t
def E_(t:S:=by exact aZ.eval (bh:=[]) bb a_.nil rfl cl):=t
def E'(t:S:=by intro e r cl bp;simp[hu,w6]at bp;split at bp<;>simp at bp):=t
def Fa(t:S:=by refine g.ao rfl ?_;simp[bs,cg]):=t
def Fb(t:S:=by have:(x==i)=v:=eZ.2 M;simp[this]):=t
def Fc(t:S:=by exact⟨bS,cv,by grind,lQ,.refl _ _⟩):=t
def Fe(t:S:=by refine g.eJ 2 ?_;refine g.cM 9 rfl (λ_=>rfl) ?_;refine g.cM 10 rfl (λ_=>rfl) ?_;refine g.ret ?_;exact⟨⟨_,bs.same⟩,.inl rfl,rfl,rfl,_,_,_,rfl,rfl,rfl,rfl⟩):=t
def Ff(t:S:=by refine g.b' () [] ?_ eG;simp):=t
def Fh(t:S:=by grind [Go.Conc.mem_ofEvents]):=t
def Fi(t:S:=by refine be e [917] rfl B ?_;exact dw _ _ rfl D):=t
def Fj(t:S:=by refine bL [-14] rfl bQ (g.az ?_);exact cz rfl B (g.ao rfl)):=t
def Fk(t:S:=by obtain⟨_,O⟩:=Kc bp;simp only[sm]at O;have aw:e<aV.length:=(cO.1 O).1;exact⟨by simp[kp,ld,O],AB aw⟩):=t
def Fl(t:S:=by refine g.aH [0] rfl ?_ (λu x=>absurd x D);simp):=t
def Fm(t:S:=by refine cU x rfl B ?_;refine g.b' () [0,1] ?_ yc;simp):=t
def Fo(t:S:=by simp only[U,x,dp];and_intros<;>omega):=t
def Fp(t:S:=by exact⟨λ_ _ _ _ he=>q0,λ_=>⟨λ_ _ _ _ he=>q0,.inl rfl⟩⟩):=t
def Fq(t:S:=by grind[List.pairwise_iff_getElem]):=t
def Fs(t:S:=by exact⟨t.a.mono w,bX.1,bX.2⟩):=t
def Fu(t:S:=by simp only[U,x,a7,show nv.bytes=32 from rfl,show mA.bytes=24 from rfl,bw,lC,ba,a9];and_intros<;>omega):=t
def Fv(t:S:=by simp only[U,x,a7,show rH.bytes=32 from rfl,ba,a9];and_intros<;>omega):=t
def Fw(t:S:=by have aw:=bg.cV b.2.1 t (0,[]);simp only[U.X,U,i,cw.l,a9,ba];exact⟨⟨bs.same,bs.same,bs.same⟩,⟨bs.same,bs.same,bs.same⟩,⟨rfl,bs.same⟩,bs.same,aw⟩):=t
def Fx(t:S:=by simp only[U,aj,a7,show pc.bytes=16 from rfl,bw,dp,jc,AA,gL,eZ,iJ,dZ,aw,heq,hv,p6,gi,ft,ip,lD,nY,ba,a9];and_intros<;>omega):=t
def Fy(t:S:=by refine g.bG 6 45 2 rfl rfl (g.bb [nb []] rfl D (g.aH [0] rfl D ?_));grind):=t
def Fz(t:S:=by obtain rfl:=jC (x rfl);refine aW rfl B ?_;refine g.ao rfl ?_;simp):=t
def FA(t:S:=by refine g.aH [0] rfl ?_ (λu x=>absurd x D);simp;rfl):=t
def FB(t:S:=by simp only[U.X,U,a9,ba];and_intros<;>first|exactλ_ _=>rfl|exact aw|rfl):=t
def FC(t:S:=by refine cU e rfl B (g.aT (bY.mk [0] rfl B rfl rfl rfl g_))):=t
def FD(t:S:=by simp[-ak,O];omega):=t
def FE(t:S:=by simp only[U,dk,a7,bw,dp,ba,a9];and_intros<;>omega):=t
def FF(t:S:=by and_intros<;>first|omega|rfl):=t
def FG(t:S:=by simp only[U,a2.l,a2.U,bg.l,bg.U,a3.l,a3.U,az.l,az.U,bu.l,bu.U,x,aj,C,r,aa,lD,and_self,ft,hJ,ba,a9]):=t
def Oe(t:S:=by simp only[U,bX,a3.l,a3.U,ft,bw,dp,ba,a9];omega):=t
def Of(t:S:=by simp only[U.X,U,x,o1,cX,a9,ba];and_intros<;>first|exactλ_ _=>rfl|exact aw|rfl):=t
def Og(t:S:=by have:=t e (rg.2 bp);simp only[ic,ck]at this;grind):=t
def Oh(t:S:=by refine a5 [16] rfl D (g.aT (bY.mk [0] rfl ?_ rfl rfl rfl h6));simp[sX t C x]):=t
def Oi(t:S:=by exact .eval (bh:=[]) bb a_.nil (cn:=[a7 .i64 (((0:Nat):Int)-((0:Nat):Int))]) rfl lx):=t
def Oj(t:S:=by simp only[U,cX,s,aw,x,C,i,a7,bw,dp,ba,a9];and_intros<;>omega):=t
def Ol(t:S:=by have bl:=O _ aj;simp only[U,i,cw.l,a7];exact⟨by omega,B,B,show(e+1)*32<=_ by omega,cw.U _,bl.1,bl.2,by omega,by omega,fi w⟩):=t
def Om(t:S:=by refine aW rfl B ?_;exact⟨u,bY.di [0] rfl B rfl rfl rfl h6⟩):=t
def On(t:S:=by simp only[U,U.X,i,O,s,pE,xY,a9];grind):=t
def Oo(t:S:=by simp only[dv]at O;subst O;exact cz rfl B (g.ao rfl)):=t
def Oq(t:S:=by have aw:=dn cT;subst aw;exact Dw (W:=W) (V:=dG) (b7 C) D tX):=t
def Ot(t:S:=by obtain⟨ky,j2,Ga⟩:=t.last R bX C2 oh bP b9;grind):=t
def Ou(t:S:=by simp only[U,a7,dp,eZ,dZ];and_intros<;>omega):=t
def Ov(t:S:=by refine g.ret ?_;exact⟨(),.inl rfl,rfl,rfl,_,_,_,rfl,rfl,rfl,B⟩):=t
def Ow(t:S:=by exact a5 [-16] rfl bE (g.b1 (e+1) rfl D rfl B M w)):=t
def Ox(t:S:=by simp only[U,xo,bw,dp,x];omega):=t
def Oy(t:S:=by simp only[U,x,i,a7,show yt.bytes=40 from rfl,show d8.bytes=8 from rfl,bw,lC,ba,a9];and_intros<;>omega):=t
def Oz(t:S:=by simp only[U,bX,a3.l,a3.U,ft,bw,ba,a9];omega):=t
def OA(t:S:=by refine aW rfl B (g.aH [0,1] rfl D sR (s:=bE))):=t
def OB(t:S:=by rw[Deaf_other o w _ g_of_ofEvents];exact t.above e bp):=t
def OC(t:S:=by simp[-ak,j,a7,cw.l,cw.U,a2.l,a2.U,A,C.1];and_intros<;>first|omega|grind):=t
def OD(t:S:=by simp only[i1,ck]at this;grind[o_]):=t
def OE(t:S:=by intro _;refine aW rfl B (g.aH [0] rfl ?_ h6);simp):=t
def OF(t:S:=by rw[s];simp only[U.X,U,aj,ba,a9];and_intros<;>first|exact u|exact h|simp|rfl|omega):=t
def OG(t:S:=by simp[-ak,C,a7,r,c0.B];omega):=t
def OH(t:S:=by simp only;rw[h,dk,show ∀x,[x].length=1 fromλ_=>rfl,uA,AQ,Gd M,S,io w];rfl):=t
def OI(t:S:=by simp only[ou,x,hd,aw];grind[Nat.eq_of_beq_eq_true]):=t
def OJ(t:S:=by exact⟨b9 bF,C,λs1 c5=>⟨bF,p,R.rely c5 C,C.rely c5,O.trans c5.aU,aw⟩⟩):=t
def OK(t:S:=by simp[ab,cl,resolve,C,Deferred.ofValue,invoke,callFunc,O,s,i]):=t
def OL(t:S:=by simp only[U,Cd,bR.l,x,bR.U];simp[t,k8,x,i,-List.length_flatten]):=t
def OM(t:S:=by have R:0+((((d.take u).filter λF=>!bl F).length:Nat):Int).toNat=((d.take u).filter λF=>!bl F).length:=w;simp only[U.X,U,R,a9,ba];exact aw):=t
def ON(t:S:=by have:=O.a' _ (mx (show b.2.1.length-1<b.2.1.length by omega) (0,[]));omega):=t
def OO(t:S:=by refine a5 [16] rfl D (g.bQ (bY.zero rfl ?_));simp[sX t A x]):=t
def OP(t:S:=by refine a5 [-7] rfl bQ (g.bs rfl rfl ?_);refine aW rfl B (g.ao rfl ?_);rw[U,ZM (λu O=>s u w)]):=t
def OQ(t:S:=by simp only[U.X,U,cX,cY,bz,a9,ba];exact k_ S w w (λ_ _=>rfl)):=t
def OR(t:S:=by have aw:scanUp (λF=>!ltInt d2[x]! F) d2 (s) (d8)=h:=FJ;exact dw () B rfl bv rfl D):=t
def OS(t:S:=by refine g.bN 1 rfl rfl rfl D D ?_;exact g.ao rfl (by simp[x,h_])):=t
def OT(t:S:=by exact a5 [-8] rfl (na N3) (g.ao rfl)):=t
def OU(t:S:=by simp only[bl]at p⊢;obtain⟨vC,aeY,aeW⟩:=t.dS _ _ bl;grind[my]):=t
def OV(t:S:=by simp only[U.X,U,cX,cY,u,e,t,xorNext_toNat,a9,ba];exact k_ d w w (λ_ _=>rfl)):=t
def OW(t:S:=by rw[s];simp only[U.X,U,aj,ba,a9];and_intros<;>first|exact u|simp|simp|simp|rfl|omega|simp):=t
def OX(t:S:=by simp only[U,show nv.bytes=32 from rfl,ba,a9];grind):=t
def OY(t:S:=by have aw:scanUp (λF=>ltInt F d2[x]!) d2 (t) (d8)=h:=FJ;exact dw () B rfl bv rfl D):=t
def OZ(t:S:=by rw[s];simp only[U.X,U,aj,ba,a9];and_intros<;>first|exact u|exact h|exactλ_ _=>rfl|rfl|omega):=t
def O0(t:S:=by show f (E1.Q (R.c (nx b.1 e (.slice (f ⟨i,0,n⟩) ag.length cap) (0+(e:Int).toNat))))=_;rw[j,nx,bo rfl]):=t
def O1(t:S:=by exact⟨(),.inr rfl,rfl,rfl,_,_,_,rfl,rfl,rfl,B⟩):=t
def O2(t:S:=by rw[ea];simp only[U.X,U,cY,A,R,dk,gx,ba,a9];and_intros<;>first|exact bs.same|exact H|rfl|omega):=t
def O3(t:S:=by rename_i C;cases t;rw[C]at s;have i:=b7 s;generalize aw:x.tmps.getD O J=aa at i;cases i;rw[key _ aw (by simp[J])]):=t
def O4(t:S:=by simp only[U,O,a7,show d8.bytes=8 from rfl];exact bv):=t
def O5(t:S:=by rw[aj];simp only[U.X,U,i,bR.l,j,h0,dk,gx,ba,a9];and_intros<;>first|exact bs.same|exact R|rfl|omega):=t
def O6(t:S:=by refine g.ret ?_;exact⟨⟨_,bs.same⟩,.inl rfl,rfl,rfl,_,_,_,rfl,rfl,rfl,B⟩):=t
def O7(t:S:=by exact bY.di [0,1] rfl B bE rfl rfl sR):=t
def O8(t:S:=by exact bL [14,-25] rfl lI (g.av (e+1) rfl D D M w)):=t
def O9(t:S:=by simp[x]at t;subst t;obtain⟨i,O⟩:=Ek x;grind):=t
def O_(t:S:=by exact .aK (a1.gT rfl rfl Tryz.underlying22 rfl ca) rfl):=t
def O'(t:S:=by simp only[U,ko,tL,cY,d,r,O,aj,bw,i];grind):=t
def Pa(t:S:=by have ae0:bl*a4.size+a4.size<=A*a4.size:=aeN;grind):=t
def Pb(t:S:=by refine cU C rfl B (g.aH [0] rfl ?_ g_);simp):=t
def Pc(t:S:=by have aw:O[e]?=(d.filter λF=>!bl F)[e]?:=M;refine(NJ wy).trans ?_;simp only[c0.fn,gF,ak,aw]):=t
def Pd(t:S:=by simp only[h]at j⊢;obtain⟨vC,bz,F'⟩:=t.dS _ _ h;grind[my]):=t
def Pe(t:S:=by simp[G,ao,stepG.exec,Frame.ab,C,O,aj,GStep.after,doReturn,bX]):=t
def Pf(t:S:=by rename_i bS;cases t;exact aZ.a0 a' (a1.pick bl bS)):=t
def Pg(t:S:=by exact .ctl aj rfl (λ_=>Mi) λb5 dE=>lR .normal dD ap b5 fO bl (C.rely dE aj) (aj.rely dE) (O.trans dE.aU)):=t
def Ph(t:S:=by simp only[U,cX,s,aw,x,i,a7,bw,dp,ba,a9];and_intros<;>omega):=t
def Pj(t:S:=by rw[s];simp only[U.X,U,O,dk,fh,gK,ba,a9];and_intros<;>first|exact bs.same|exact r j bF|rfl|omega):=t
def Pk(t:S:=by rw[d];simp[-ak];exact bu.aX _ aj):=t
def Pl(t:S:=by refine cU i rfl tS ?_;exact⟨⟨_,by rw[cX];exact e4⟩,.inr rfl,rfl,rfl,_,_,_,rfl,rfl,rfl,B⟩):=t
def Pm(t:S:=by rw[x];simp only[U.X,U,i,ba,a9];and_intros<;>first|exact bs.same|exact aw|rfl|omega):=t
def Pn(t:S:=by simp only[U.X,U,cX,s,aw,x,a9,ba];exact k_ u w w (λ_ _=>rfl)):=t
def Po(t:S:=by exact⟨by simp[aK,MemAct.low],λi s=>by simp[aK,MemAct.touch?]at s,λi s=>by simp[aK,MemAct.touch?]at s,⟨by simp,by simp⟩,by simp⟩):=t
def Pp(t:S:=by simp[-ak,j_,aj,O,a7];omega):=t
def Pq(t:S:=by refine iS ?_;change du b (Sem.events P (asInt (.int .i64 0) >>= _) _ _);simp[asInt,asIntOf,IntKind.max];exact .nil):=t
def Pr(t:S:=by exact .de (.aK (a1.gT rfl rfl Tryz.underlying22 rfl ca) rfl)):=t
def Ps(t:S:=by exact a5 [8] rfl (fi (Ka t)) (g.ao rfl)):=t
def Pt(t:S:=by simp only[U,cX,cY,bS,bl,a7,bw,ba,a9];and_intros<;>omega):=t
def Pu(t:S:=by refine aW rfl B (g.ret (.freeze 8 4 rfl rfl rfl (.freeze 9 5 rfl rfl rfl (.of ⟨(),k0.cells bb [0,1] rfl ?_ rfl rfl rfl ql⟩))));simp):=t
def Pv(t:S:=by have aw:scanDown (λF=>!ltInt F d0[x]!) d0 (e) (i-1)=h:=z4;exact dw () B rfl bv rfl D):=t
def Pw(t:S:=by simp only[U,a2.l,bg.l,a3.l,bu.l,e,r2,j];and_intros<;>first|rfl|exact True.intro|exact a2.U _|exact bg.U _|exact a3.U _|exact bu.U _|exact a'):=t
def Px(t:S:=by rw[h.bz i (eC cT t.size) (dw i cT jm),t.bz i cT jm]):=t
def Py(t:S:=by rw[O];simp[-ak,sM];exact bR.aX _ _):=t
def Pz(t:S:=by have bl:=C _ aj;simp only[U,i,bG.l,a7];exact⟨by omega,B,B,show(e+1)*32<=_ by omega,bG.U _,bl,by omega,by omega,fi w⟩):=t
def PA(t:S:=by rw[s];simp only[U.X,U,cY,O,dk,gx,ba,a9];and_intros<;>first|exact bs.same|exact C|rfl|omega):=t
def PC(t:S:=by exact .aK (a1.fE rfl rfl Tryz.underlying22 rfl x) rfl):=t
def PD(t:S:=by obtain rfl:e=S.2.length:=w;rw[c6];refine a8 i [-15] rfl D (g.az ?_);refine b8 i rfl B ?_;refine g.bf () [] ?_ (λu h=>absurd h D);simp[hD]):=t
def PE(t:S:=by simp only[U.X,U,cX,ba,a9];and_intros<;>first|exact bs.same|exact dK|rfl):=t
def PF(t:S:=by simp only[Go.binOp,Op.shift,bj (show¬i<0 by omega),t];exact⟨rfl,rfl⟩):=t
def PG(t:S:=by rw[i];simp only[U.X,U,cY,O,dk,gx,ba,a9];and_intros<;>first|exact bs.same|exact d|rfl|omega):=t
def PH(t:S:=by rw[s];simp only[U.X,U,aj,ba,a9];and_intros<;>first|exact u|simp|simp|grind|rfl|omega|simp):=t
def PI(t:S:=by refine g.b' () [0,1,2] ?_ nl;simp[h_]):=t
def PJ(t:S:=by simp only[Go.binOp,dZ,hv,dm,Op.intBits,aw,r5 O];exact⟨rfl,rfl⟩):=t
def PK(t:S:=by simp[-ak,r,bl,t,a7];omega):=t
def PL(t:S:=by simp only[U,s,i,bw,lC,ba,a9];and_intros<;>omega):=t
def PM(t:S:=by refine g.bf () [0,1] ?_ yc;simp):=t
def PN(t:S:=by simp only[U.X,U,i,ba,a9];and_intros<;>first|exactλ_ _=>rfl|exact s|rfl|omega):=t
def PO(t:S:=by refine g.eJ 2 ?_;refine g.cM 9 rfl (λ_=>rfl) ?_;refine g.ret ?_;exact⟨⟨_,bs.same⟩,.inl rfl,rfl,rfl,_,_,_,rfl,rfl,rfl,rfl⟩):=t
def PP(t:S:=by refine a5 [-18,22] rfl bQ ?_;refine g.b' () [] ?_ eG;simp):=t
def PQ(t:S:=by refine aW rfl B (g.aH [0] rfl ?_ h6);simp):=t
def PR(t:S:=by refine a5 [-8] rfl D (g.az ?_);exact aW rfl B (g.ao rfl)):=t
def PS(t:S:=by rw[i];simp only[U.X,U,cY,O,s,bG.l,az.l,dk,gx,ba,a9];and_intros<;>first|exact bs.same|exact d|rfl|omega):=t
def PT(t:S:=by refine aW rfl B ?_;refine g.aB (Yr (q:=q) h (by simpa using bX)) [] rfl ?_;refine a5 [18,22] rfl D ?_;refine g.b' () [] ?_ eG;simp):=t
def PU(t:S:=by refine cz rfl B (g.aH [0] rfl ?_ h6);simp;rfl):=t
def PV(t:S:=by refine g.cU 4 0 2 3 (lt:=_) (cy:=.ay aj d u s) rfl rfl (λ_=>rfl) (λ_=>rfl) (λ_ _=>by decide) ?_;exact g.aH [0] rfl D sQ):=t
def PW(t:S:=by simp[-ak,-List.contains_eq_mem,O,t,aj,az.l,az.U,a7];omega):=t
def PX(t:S:=by simp only[U,a7,show d8.bytes=8 from rfl,bw,dp,gL,eZ,dZ];and_intros<;>first|rfl|omega|(simp[g7];done)):=t
def PY(t:S:=by refine a5 [-9] rfl bQ (g.bs rfl rfl ?_);refine aW rfl B (g.ao rfl ?_);simp[sY (λu r=>x u w)]):=t
def PZ(t:S:=by rw[i];simp[-ak];exact bu.aX _ (cu o e,lr o e)):=t
def P0(t:S:=by have aw:((d.take (i0+1)).filter λF=>!bl F).length=i0:=aeO;simp[aw]):=t
def P1(t:S:=by simp only[U.X,U,bs.same,ba,a9];rfl):=t
def P2(t:S:=by rw[s];simp only[U.X,U,dk,gx,ba,a9];and_intros<;>first|exact bs.same|exact aj j|rfl|omega):=t
def P3(t:S:=by simp[-ak,t,ko,tL,i,O,C,s,A];omega):=t
def P4(t:S:=by refine⟨rfl,λe bp=>?_⟩;rcases e with _|_|_|_|_|_|_|_|e<;>first|rfl|omega):=t
def P5(t:S:=by simp only[U.X,U,a9,ba,wW];exact⟨bs.same,bs.same,bs.same⟩):=t
def P6(t:S:=by and_intros<;>first|exact bR.U _|rfl|omega):=t
def P7(t:S:=by refine g.cU 4 0 2 9 (lt:=.ay O e h C) (cy:=.nil) rfl rfl (λ_=>rfl) (λt=>absurd rfl t) (λ_ t=>absurd rfl t) ?_;exact g.aH [0] rfl D sQ):=t
def P8(t:S:=by have aw:=a2.cV b.1 t (0,[]);simp only[U.X,U,i,bG.l,a9,ba];exact⟨⟨bs.same,bs.same,bs.same⟩,⟨bs.same,bs.same,bs.same⟩,⟨rfl,bs.same⟩,aw,bs.same⟩):=t
def P9(t:S:=by exact .aK (Kh 0 rfl rfl rfl lx (λp=>rfl) (λp=>rfl)) rfl):=t
def P_(t:S:=by simp[-ak,A,o,bG.l,bG.U,t]):=t
def Qa(t:S:=by refine⟨by grind[nI],by grind,?_⟩;rw[<-s,uM,aj,show x+L / 4*2-1+(3-(h+1))+1=x+L / 4*2-1+(3-h) by omega]):=t
def Qb(t:S:=by subst d;exact⟨.bool l,by simp[ab,t,i,O,x,binOp,h],Rd.bool,by simp[ab,t,i,O,x,aj,binOp,h,C]⟩):=t
def Qc(t:S:=by simp only[aH];grind[setRow_other]):=t
def Qd(t:S:=by simp only[U.X,U,x,i,o1,cX,a9,ba];and_intros<;>first|exactλ_ _=>rfl|exact A|rfl):=t
def Qe(t:S:=by rw[h];simp only[dk,gx,U.X,U,x,ba,a9];and_intros<;>first|exact A|simp|rfl|omega):=t
def Qf(t:S:=by simp[-ak,bz,o,bX,i,r,bG.l,bG.U,a7];omega):=t
def Qg(t:S:=by refine⟨by grind,a',by grind,λe bp=>bz e M⟩):=t
def Qh(t:S:=by refine b8 i rfl bE (g.av (e+1) rfl D ?_ t w);simp):=t
def Qi(t:S:=by simp only[U,a7,aw,s,A,bw,eq_self,ba,a9];omega):=t
def Qj(t:S:=by exact aW rfl D (g.bu ⟨(7,h+3),by simp⟩ (g.aH [0] rfl D kI))):=t
def Qk(t:S:=by have ea:a_ (af.aD T) [(7,dU [fR lw,fR lw] (bf l))]:=.cons (ef V5) .nil;refine be ea [-49,-55,58,62] rfl D (g.aH [0,1,2] rfl ?_ nl);simp):=t
def Ql(t:S:=by and_intros<;>first|exact bs.same|exact md|rfl):=t
def Qm(t:S:=by refine a5 [-9] rfl bQ (g.az ?_);refine aW rfl B (g.aH [0] rfl ?_ h6);simp[sY (λu j=>x u w)]):=t
def Qn(t:S:=by simp only[hf,List.take_zero,h1,o,U.X,U,ba,a9];and_intros<;>first|simp|rfl|omega):=t
def Qo(t:S:=by have aw:(z.toArray++Array.replicate (fn.ntmps-z.toArray.size) J).getD o J=(z[o]?).getD J:=FL;grind):=t
def Qp(t:S:=by simp only[U,a7,aw,s,e,bw,dp,ba,a9];omega):=t
def Qq(t:S:=by simp only[U,bw,ba,a9];and_intros<;>omega):=t
def Qr(t:S:=by simp only[U,C,s,i,bu.l,bu.U,lD,and_self,gi,ba,a9]):=t
def Qs(t:S:=by obtain⟨c5,dE⟩:=aj W gk Dv dG M;refine⟨c5,λaw=>?_⟩;obtain⟨L,S,A⟩:=dE aw;refine⟨L,?_,A⟩;simp only[a6.cut,iq,gQ,dv];exact S):=t
def Qt(t:S:=by simp only[U,xo,bw,dp,x,a7];omega):=t
def Qu(t:S:=by subst t;cases F<;>cases bF<;>simp only at O<;>simp[binOp,x]):=t
def Qv(t:S:=by obtain⟨rfl,rfl⟩:=t;obtain⟨i,x⟩:=cl;replace x:0<bF:=x;simp only[binOp,dZ,hv,dm,Op.intDiv,show bF≠0 by omega];rfl):=t
def Qw(t:S:=by intro j t;rw[fh,List.range'_succ];refine⟨by simpa using t 0 r rfl,x (j+1) λu i J6=>?_⟩;have:=t (u+1) i M;grind):=t
def Qx(t:S:=by refine b8 x rfl bE ?_;refine g.aK (yH ((min (aj+8) o.length:Nat):Int) rfl rfl rfl w d) rfl rfl ?_;refine b8 x rfl B (g.ao rfl ?_);simp[aw]):=t
def Qy(t:S:=by refine⟨i,rfl,?_⟩;rw[bj w];simp[g0,jE]):=t
def Qz(t:S:=by simp only[U,a7,bw,ba,a9];and_intros<;>first|rfl|omega):=t
def QA(t:S:=by simp only[U,aj,a7,show pc.bytes=16 from rfl,bw,dp,jc,AA,gL,eZ,iJ,dZ,heq,hv,p6,gi,ft,ip,lD,nY,ba,a9];and_intros<;>omega):=t
def QB(t:S:=by simp[-ak];exact bu.aX _ aj):=t
def QC(t:S:=by simp only[U,cX,s,aw,x,h,C,i,a7,bw,dp,ba,a9];and_intros<;>omega):=t
def QD(t:S:=by exact aZ.eval (bh:=[]) bb a_.nil rfl (nu b d j i t)):=t
def QF(t:S:=by rw[x];simp only[U.X,U,dk,fh,gK,ba,a9];and_intros<;>first|exactλ_ _=>rfl|exact a'|rfl|omega):=t
def QG(t:S:=by simp only[U,show vi.bytes=16 from rfl,ba,a9];grind):=t
def QH(t:S:=by simp[-ak,A,j,o,bG.l,bG.U,t,a7];omega):=t
def QI(t:S:=by subst d;exact⟨.bool v,by simp[ab,t,i,O,x,binOp,h],Rd.bool,by simp[ab,t,i,O,x,aj,binOp,h,C]⟩):=t
def QJ(t:S:=by simp only[U,a7,bw,dp,ba,a9];and_intros<;>omega):=t
def QK(t:S:=by refine a5 [-9] rfl bv (g.az ?_);exact aW rfl B (g.ao rfl)):=t
def QL(t:S:=by and_intros<;>first|exact bR.U _|exact e_.U _|omega):=t
def QM(t:S:=by simp[-ak,-List.contains_eq_mem,O,t,aj,az.l,az.U,a7,show mA.bytes=24 from rfl];omega):=t
def QN(t:S:=by rw[d];simp only[U.X,U,i,s,A,a2.l,dk,gx,ba,a9];and_intros<;>first|exact bs.same|exact r|rfl|omega):=t
def QO(t:S:=by simp only[U,a2.l,bg.l,a3.l,bu.l,e,r2,r];and_intros<;>first|rfl|exact True.intro|exact a2.U _|exact bg.U _|exact a3.U _|exact bu.U _|exact a'):=t
def QP(t:S:=by refine bL [-52,55] rfl z_ (g.aH [0] rfl ?_ g_);exact bE):=t
def QQ(t:S:=by rw[s];simp only[U.X,U,cY,u,dk,gx,ba,a9];and_intros<;>first|exact bs.same|exact d|rfl|omega):=t
def QR(t:S:=by have aw:scanDown (λF=>ltInt d2[x]! F) d2 (aj) (s)=h:=z4;exact dw () B rfl bv rfl D):=t
def QS(t:S:=by simp only[U.X,U,dk,gx,ba,a9];and_intros<;>first|exact bs.same|exact bS|rfl|omega):=t
def QT(t:S:=by simp[-ak,j,r,a7,cw.l,cw.U,a2.l,a2.U,A,C.1];and_intros<;>first|omega|grind):=t
def QU(t:S:=by and_intros<;>first|exactλ_ _=>rfl|exact aw|rfl|omega):=t
def QV(t:S:=by have aw:scanDown (λF=>!ltInt F d2[x]!) d2 (d) (t)=h:=z4;exact dw () B rfl bv rfl D):=t
def QW(t:S:=by simp only[U.X,U,dk,gx,ba,a9];and_intros<;>first|exact bs.same|exact s|rfl|omega):=t
def QX(t:S:=by rw[<-gQ,dK]at f1;simp only[h7,e3]at f1;grind):=t
def QY(t:S:=by exact⟨by exact cS,λi h=>by exact cS,⟨by simp,by simp⟩,by simp⟩):=t
def Q0(t:S:=by rename_i aw;subst aw;intro pre vh;refine .ctl aj rfl (λ_=>Mh (gk:=h) (by rw[vh];simp[exitTo])) λb5 dE=>?_;exact lR .normal dD ap b5 fO bl (C.rely dE aj) (aj.rely dE) (O.trans dE.aU)):=t
def Q1(t:S:=by simp only[U,a7,i,x,gi,bw,dp,ba,a9];and_intros<;>omega):=t
def Q2(t:S:=by simp only[U,az.U,az.l,G,S,ba,a9];and_intros<;>first|exact H|rfl|(simp;first|exact S|exact S.symm|exact aa|exact aa.symm|exactλaw=>aa aw.symm)):=t
def Q3(t:S:=by rw[hz]at t;cases t;exact ff.de (ee aY aw i cl) aj h):=t
def Q4(t:S:=by simp[-ak,-List.length_take,O,j_,i,C,s,a7];omega):=t
def Q5(t:S:=by refine bL [-52,-55] rfl bv (g.aH [0] rfl ?_ g_);simp[aj,aw,qr,C1]):=t
def Q6(t:S:=by have i:=(aY o e bp).run_underlying (p:=b.a);rw[aj]at i;simp[ab,t,x,O,Instr.index,asIntOf,i,J6,C]):=t
def Q7(t:S:=by obtain⟨S,L1,c5,dE,a'⟩:=t.box d bS L aJ x;obtain⟨o,u,k1,aj,C⟩:=h.box d S L1 c5 dE;exact⟨o,u,k1,aj,a'.trans C⟩):=t
def Q8(t:S:=by have:=O.aY _ (mx (show b.1.length-1<b.1.length by omega) (0,[]));omega):=t
def Q9(t:S:=by refine bL [52] rfl zM (g.aH [0] rfl ?_ g_);exact bE):=t
def Q_(t:S:=by simp only[U,bG.l,x,bX];and_intros<;>first|exact bG.U _|rfl|exact True.intro|grind):=t
def Q'(t:S:=by have aw:=JC C A aa;refine⟨by omega,rfl,?_,λ_ _=>rfl⟩;grind):=t
def Ra(t:S:=by have aw:scanUp (λF=>ltInt F d0[x]!) d0 (i-1) (x+1)=h:=FJ;exact dw () B rfl bv rfl D):=t
def Rb(t:S:=by simp only[U,a7,show yt.bytes=40 from rfl,ba,a9];and_intros<;>omega):=t
def Rc(t:S:=by obtain⟨e,r,i,x⟩:=C0 t;exact⟨e+1,r,by grind,x⟩):=t
def Re(t:S:=by refine aW rfl B ?_;exact⟨(),.inr rfl,rfl,rfl,_,_,_,rfl,rfl,rfl,B⟩):=t
def Rf(t:S:=by simp[-ak,O,s];omega):=t
def Rg(t:S:=by simp[-ak,A,j,t,g7,a7,cw.l,cw.U,a2.l,a2.U,bg.U,a3.U,r,bl.1];and_intros<;>first|omega|grind):=t
def Rh(t:S:=by simp only[U.X,U,cX,cY,a9,ba];exact k_ bz w w (λ_ _=>rfl)):=t
def Ri(t:S:=by simp only[h7,e3]at dK;rw[<-dK,f2,t.db]at e4;omega):=t
def Rk(t:S:=by simp at O;subst O;exact⟨_,rfl,.inr ⟨rfl,rfl⟩⟩):=t
def Rl(t:S:=by simp[ab,cl,resolve,s,Deferred.ofValue,invoke,O]):=t
def Rm(t:S:=by refine g.cU 4 0 9 2 (lt:=.nil) (cy:=.ay aj d u s) rfl rfl (λt=>absurd rfl t) (λ_=>rfl) (λt=>absurd rfl t) ?_;exact g.aH [0] rfl D sQ):=t
end
end Go
namespace Go.AM
instance{j:Nat}:OfNat (Nat×Bool) j:=⟨(j,true)⟩
instance:Neg (Nat×Bool):=⟨λF=>(F.1,false)⟩
inductive N where
  |int (h:IntKind) (j:Int)
  |bool (i:Bool)
  |T (b:List UInt8)
  |B (tight:Bool) (h j:Nat) (V:Nat->List N)
  |R (ah:List N)
  |bo
  |cf (o:al) (s:N)
  |cE (o:al) (ah:List N)
  |bD
  |fn (aj:Fn) (first cap:List N)
  |dp
  |val (F:Y)
inductive pM where
  |B (C h r j:Nat)
  |bt (C h e aj:Nat)
def pM.g:pM->Nat
  |.B C _ _ _=>C
  |.bt C _ _ _=>C
def pM.fV:pM->Y->Y->Prop
  |.B _ h m k,d,i=>∃j e a b,i=.slice j k a/\k<=a/\m+a=b/\b<=9223372036854775807/\d=.slice e 0 b/\(0<a->∃g,e=f ⟨g,0,n⟩/\j=f ⟨g,m*h,n⟩)
  |.bt _ h p o,d,i=>∃g b,d=.slice (f ⟨g,0,n⟩) 0 b/\i=.pointer (f ⟨g,p*h+o,n⟩)
inductive R where
  |c (F:N)
  |ptr (d off:Nat)
  |x (d h j:Nat) (V:Nat->List N)
  |aM (d:Nat)
  |O (d:Nat) (p:pM)
  |any
abbrev R.v(a:Y):R:=.c (.val a)
inductive E1 where
  |Q (x:R)
  |agg (ah:List R)
inductive y where
  |n (F:E1)
  |S (ag:List E1)
  |any
abbrev bJ:=m (Nat×y)
def look:bJ->Nat->y
  |[],_=>.any
  | (d,b)::e,a=>cond (ad d a) b (look e a)
inductive aq where
  |cells (W:al) (ah:List R)
  |x (W:al) (h j:Nat) (V:Nat->List N)
  |K (H:Y->(Nat->Option Obj)->Prop)
  |M
  |loop (E:Nat) (I:bJ) (a':Loop)
  |bl
  |q (W:al) (h j:Nat) (V:Nat->List N)
@[simp] def aq.dP:aq->Bool
  |.x _ _ _ _=>l
  |.q _ _ _ _=>l
  |_=>v
structure Loc where
  v:Y
  ak:m Nat
abbrev Mem:=Nat->Nat->Option Y
structure a6 where
  t:m Loc
  D:Mem
  a:ar
  own:Nat->Prop
def a7:IntKind->Int->Prop
  |.i8,a=>-128<=a/\a<=127
  |.i16,a=>-32768<=a/\a<=32767
  |.i32,a=>-2147483648<=a/\a<=2147483647
  |.i64,a=>-9223372036854775808<=a/\a<=9223372036854775807
  |.u8,a=>0<=a/\a<=255
  |.u16,a=>0<=a/\a<=65535
  |.u32,a=>0<=a/\a<=4294967295
  |.u64,a=>0<=a/\a<=18446744073709551615
def dQ:Y->Bool
  |.agg _|.tuple _=>v
  |_=>l
def pM.fV.cell{b:pM}{ZS aa}(a:b.fV ZS aa):dQ aa=l:=by
  cases b with
  |B=>obtain⟨_,_,_,_,rfl,_⟩:=a;rfl
  |bt=>obtain⟨_,_,_,rfl⟩:=a;rfl
inductive Rd (bB:Mem):Y->N->Prop
  |int {h:IntKind} {j:Int} (t:a7 h j):Rd bB (.int h j) (.int h j)
  |bool {i:Bool}:Rd bB (.bool i) (.bool i)
  |T {b:ByteArray} {d:List UInt8} (t:b.data.toList=d) (gQ:c d<=9223372036854775807):Rd bB (.string b) (.T d)
  |B {x:Option Addr} {j cap:Nat} {tight:Bool} {h:Nat} {V:Nat->List N} (i off:Nat) (aj:Nat->Nat->Y)
      (aeV:j<=cap) (cT:cap<=9223372036854775807) (ae1:tight=l->cap=j) (bX:∀e,e<j->c (V e)=h)
      (aeT:0<j->x=f ⟨i,off,n⟩)
      (C3:∀e,e<j->∀u s,(V e)[u]?=f s->bB i (off+e*h+u)=f (aj e u))
      (J7:∀e,e<j->∀u s,(V e)[u]?=f s->Rd bB (aj e u) s):Rd bB (.slice x j cap) (.B tight h j V)
  |R {ah:List N} (i off:Nat) (aj:Nat->Y)
      (C3:∀u s,ah[u]?=f s->bB i (off+u)=f (aj u))
      (J7:∀u s,ah[u]?=f s->Rd bB (aj u) s):Rd bB (.pointer (f ⟨i,off,n⟩)) (.R ah)
  |bo:Rd bB (.pointer n) .bo
  |cf {o:al} {aa:Y} {s:N} (t:Rd bB aa s) (aeU:dQ aa=l):Rd bB (.iface o aa) (.cf o s)
  |cE {o:al} {z:List Y} {ah:List N} (gQ:c z=c ah)
      (aj:Nat->Y) (rD:∀u,u<c z->z[u]?=f (aj u)) (J7:∀u s,ah[u]?=f s->Rd bB (aj u) s):Rd bB (.iface o (.agg z.toArray)) (.cE o ah)
  |bD:Rd bB .nilIface .bD
  |fn {C:Fn} {first cap:List N} (ym ah:List Y) (gQ:c ym=c first) (aeX:c ah=c cap) (f1 f2:Nat->Y)
      (c5:∀u,u<c ym->ym[u]?=f (f1 u)) (dE:∀u,u<c ah->ah[u]?=f (f2 u))
      (ae6:∀u s,first[u]?=f s->Rd bB (f1 u) s) (ae7:∀u s,cap[u]?=f s->Rd bB (f2 u) s):Rd bB (.func C ym.toArray ah.toArray) (.fn C first cap)
  |dp:Rd bB .nilFunc .dp
  |val {F:Y} (t:dQ F=l):Rd bB F (.val F)
theorem Rd.bc{bB}{aa a}(b:Rd bB aa (.val a)):aa=a:=by cases b;rfl
def Rd.cell{bB}{aa}{s}(a:Rd bB aa s):dQ aa=l:=by cases a<;>first|rfl|assumption
def Rd.mono{bB m}(J:∀k K aa,bB k K=f aa->m k K=f aa){aa}{s}(h:Rd bB aa s):Rd m aa s:=by
  induction h with
  |int h=>exact .int h
  |bool=>exact .bool
  |T h e=>exact .T h e
  |B k g o M D F E C j q b=>
    exact .B k g o M D F E C (λI i d s a=>J _ _ _ (j I i d s a)) (λI i d s a=>b I i d s a)
  |R k g o j q b=>exact .R k g o (λd s a=>J _ _ _ (j d s a)) (λd s a=>b d s a)
  |bo=>exact .bo
  |cf h N b=>exact .cf b N
  |cE e o O q b=>exact .cE e o O (λd s a=>b d s a)
  |bD=>exact .bD
  |fn y u e p w x z A Q S r t=>exact .fn y u e p w x z A (λd s a=>r d s a) (λd s a=>t d s a)
  |dp=>exact .dp
  |val h=>exact .val h
def cA(h:m aq)(i:a6)(b:Y):R->Prop
  |.c w=>Rd i.D b w
  |.ptr a o=>(∀j,h[a]?=f j->j.dP=v)/\∃L u,i.t[a]?=f L/\L.v=.pointer (f ⟨u,0,n⟩)/\b=.pointer (f ⟨u,o,n⟩)
  |.x a q e d=>Rd i.D b (.B v q e d)/\a<c h/\∀p r g k,h[a]?=f (aq.x p r g k)->e<=g/\(g=e->∃L,i.t[a]?=f L/\b=L.v)
  |.aM a=>(∀j,h[a]?=f j->j.dP=v)/\∃L,i.t[a]?=f L/\b=L.v/\dQ b=l
  |.O a s=>∃t,s.fV t b/\a<c h/\∀p q e d,h[a]?=f (aq.q p q e d)->s.g<=e/\(s.g=e->∃L,i.t[a]?=f L/\L.v=t)
  |.any=>dQ b=l
def bM(b:m aq)(d:a6):m Y->m R->Prop
  |[],[]=>True
  |g::z,e::a=>cA b d g e/\bM b d z a
  |_,_=>False
def ez(b:m aq)(d:a6)(e:Y):E1->Prop
  |.Q g=>cA b d e g
  |.agg a=>∃z:m Y,e=.agg z.toArray/\bM b d z a
def eY(b:m aq)(d:a6):m Y->m E1->Prop
  |[],[]=>True
  |g::z,e::a=>ez b d g e/\eY b d z a
  |_,_=>False
def bx(b:m aq)(d:a6)(e:Y):y->Prop
  |.n g=>ez b d e g
  |.S a=>∃z:m Y,e=.tuple z.toArray/\eY b d z a
  |.any=>True
def b4(b:m aq)(d:a6):m Y->m y->Prop
  |[],[]=>True
  |g::z,e::a=>bx b d g e/\b4 b d z a
  |_,_=>False
structure eX(bB:Mem)(h j:Nat)(V:Nat->m N)(z:m Y):Prop where
  len:c z=j*h
  bF:∀e,e<j->c (V e)=h
  rd:∀e,e<j->∀(u:Nat) (s:N),(V e)[u]?=f s->∃aa,z[e*h+u]?=f aa/\Rd bB aa s
def eX.mono{bB a}(o:∀i k aa,bB i k=f aa->a i k=f aa){h j}{b:Nat->m N}{z}(d:eX bB h j b z):eX a h j b z:=
  ⟨d.len,d.bF,λq e r p g=>let ⟨aa,c5,dE⟩:=d.rd q e r p g;⟨aa,c5,dE.mono o⟩⟩
def ey(u:m aq)(b:a6):aq->Loc->Prop
  |.cells o s,L=>∃a z,L=⟨.pointer (f ⟨a,0,n⟩),[a]⟩/\b.a.heap[a]?=f (.cells (List.toArray z) o (0,0))/\bM u b z s/\∀d,b.D a d=n
  |.x o j g e,L=>Rd b.D L.v (.B v j g e) /\
      (((L.ak=[]/\g=0)/\Rd b.D L.v (.B l j g e)) ∨
       ∃a h z,L=⟨.slice (f ⟨a,0,n⟩) g h,[a]⟩/\b.a.heap[a]?=f (.cells (List.toArray z) o (0,0))/\c z=h*j/\∀d,g*j<=d->b.D a d=n)
  |.K H,L=>∃i,H L.v i/\(∀a d,i a=f d->b.a.heap[a]?=f d)/\(∀a,a∈L.ak↔(i a).isSome=l)/\∀a∈L.ak,∀d,b.D a d=n
  |.M,_=>True
  |.loop y x k,L=>∃r tmps fn t,L=⟨.func (.yield r) #[] #[],[r]⟩/\b.a.heap[r]?=f (.loop {k with tmps:=tmps,fn:=fn,defers:=t})/\tmps.size=y/\(∀w,bx u b (tmps.getD w J) (look x w))/\∀d,b.D r d=n
  |.bl,L=>∃k:Nat,L=⟨.int .i64 k,[k]⟩/\b.a.heap[k]?=f (.deferred (f []))/\∀d,b.D k d=n
  |.q o j g e,L=>(g=0/\L=⟨.slice n 0 0,[]⟩)∨∃a q z p,L=⟨.slice (f ⟨a,0,n⟩) 0 q,[a]⟩/\b.a.heap[a]?=f (.cells (List.toArray (z++p)) o (0,0))/\c (z++p)=q*j/\g<=q/\q<=9223372036854775807/\eX b.D j g e z/\∀d,b.D a d=n
structure bc(k:m aq)(b:a6):Prop where
  mem:∀i r aa,b.D i r=f aa->b.a.cell? ⟨i,r,n⟩=f aa
  len:c b.t=c k
  box:∀(d:Nat) (bS:aq) (L:Loc),k[d]?=f bS->b.t[d]?=f L->ey k b bS L
  a1:∀(d kL:Nat) (L cv:Loc),b.t[d]?=f L->b.t[kL]?=f cv->∀i∈L.ak,i∈cv.ak->d=kL
  lt:∀L∈b.t,∀i∈L.ak,i<b.a.heap.size
  own:∀i,b.own i->i<b.a.heap.size/\∀L∈b.t,i∉L.ak
def fM:aq->Loc->aq->Loc->Prop
  |.x _ _ d _,L,.x _ _ b _,a=>(b=d->a.v=L.v)/\d<=b
  |.x _ _ _ _,_,.M,_=>True
  |.x _ _ _ _,_,_,_=>False
  |.q _ _ d _,L,.q _ _ b _,a=>(b=d->a.v=L.v)/\d<=b
  |.q _ _ _ _,_,.M,_=>True
  |.q _ _ _ _,_,_,_=>False
  |_,_,.x _ _ _ _,_=>False
  |_,_,.q _ _ _ _,_=>False
  |.M,L,.M,a=>a.v=L.v
  |.M,_,_,_=>False
  |.bl,L,.bl,a=>a.v=L.v
  |.bl,_,_,_=>False
  |_,_,.bl,_=>False
  |_,L,_,a=>a.v=L.v
structure fq(k:m aq)(b:a6)(ap:m aq)(aA:a6):Prop where
  mem:∀i r aa,b.D i r=f aa->aA.D i r=f aa
  box:∀(d:Nat) (bS:aq) (L:Loc),k[d]?=f bS->b.t[d]?=f L->∃eb cv,ap[d]?=f eb/\aA.t[d]?=f cv/\fM bS L eb cv
structure cN(k:m aq)(b:a6)(ap:m aq)(aA:a6):Prop where
  size:b.a.heap.size<=aA.a.heap.size
  a3:∀i,i<b.a.heap.size->(∀L∈b.t,i∉L.ak)->aA.a.heap[i]?=b.a.heap[i]?
  mem:∀i r aa,b.D i r=f aa->aA.D i r=f aa
  bz:∀i,i<b.a.heap.size->(∀L∈b.t,i∉L.ak)->∀r,aA.D i r=b.D i r
  bR:∀cv∈aA.t,∀i∈cv.ak,b.a.heap.size<=i∨∃L∈b.t,i∈L.ak
  box:∀(d:Nat) (bS:aq) (L:Loc),k[d]?=f bS->b.t[d]?=f L->∃eb cv,ap[d]?=f eb/\aA.t[d]?=f cv/\fM bS L eb cv
  os:aA.a.os=b.a.os
  tape:aA.a.tape=b.a.tape
  output:aA.a.output=b.a.output
  own:aA.own=b.own
structure df(k:m aq)(b:a6)(ap:m aq)(aA:a6):Prop where
  size:b.a.heap.size<=aA.a.heap.size
  a3:∀i,b.own i->aA.a.heap[i]?=b.a.heap[i]?
  mem:∀i r aa,b.D i r=f aa->aA.D i r=f aa
  bz:∀i,i<b.a.heap.size->(∀L∈b.t,i∉L.ak)->∀r,aA.D i r=b.D i r
  bR:∀cv∈aA.t,∀i∈cv.ak,b.a.heap.size<=i∨∃L∈b.t,i∈L.ak
  box:∀(d:Nat) (bS:aq) (L:Loc),k[d]?=f bS->b.t[d]?=f L->∃eb cv,ap[d]?=f eb/\aA.t[d]?=f cv/\fM bS L eb cv
  os:aA.a.os=b.a.os
  tape:aA.a.tape=b.a.tape
  output:aA.a.output=b.a.output
  own:aA.own=b.own
structure cV(b aA:a6):Prop where
  t:aA.t=b.t
  D:aA.D=b.D
  own:aA.own=b.own
  size:b.a.heap.size<=aA.a.heap.size
  a3:∀i,(b.own i∨∃L∈b.t,i∈L.ak)->aA.a.heap[i]?=b.a.heap[i]?
  mem:∀i r aa,b.D i r=f aa->aA.a.cell? ⟨i,r,n⟩=f aa
  os:aA.a.os=b.a.os
  tape:aA.a.tape=b.a.tape
  output:aA.a.output=b.a.output
def h4(d:a6)(b:aO):Prop:=
  match b.loc with
  |.cell a=>b.sync=v/\a.spot=n/\(False∨((∃L∈d.t,a.block∈L.ak)/\(b.write=l->d.D a.block a.off=n))∨(b.write=v/\∃i,d.D a.block a.off=f i))
  |.obj h=>b.sync=v/\(False∨∃L∈d.t,h∈L.ak)
  |.mark e=>e=.noRoom∨∃g,e=.extern g
  |_=>False
def du(d:a6)(a:Array aO):Prop:=∀b∈a,h4 d b
def du.nil{b}:du b #[]:=by intro a d;grind
def fM.refl(a)(L):fM a L a L:=by cases a<;>simp[fM]
def fM.trans{g d a}{L e b}(i:fM g L d e)(h:fM d e a b):fM g L a b:=by
  cases g<;>cases d<;>cases a<;>simp_all[fM]
  all_goals
    grind
def cN.refl(k)(b):cN k b k b:=
  ⟨bC _,λ_ _ _=>rfl,λ_ _ _ a=>a,λ_ _ _ _=>rfl,λL a h d=>.inr ⟨L,a,d⟩,λ_ e L a g=>⟨e,L,a,g,.refl _ _⟩,rfl,rfl,rfl,rfl⟩
def cN.trans{k aS a}{b e b5}(t:cN k b aS e)(h:cN aS e a b5):cN k b a b5:=by
  have dw:∀i,i<b.a.heap.size->(∀L∈b.t,i∉L.ak)->∀L∈e.t,i∉L.ak:=by
    intro i cT jm L x g;rcases t.bR L x i g with c5|⟨w,s,p⟩
    · omega
    grind
  refine⟨fQ t.size h.size,?_,λi m y j=>h.mem _ _ _ (t.mem _ _ _ j),?_,?_,?_,h.os.trans t.os,h.tape.trans t.tape,h.output.trans t.output,h.own.trans t.own⟩
  · intro i cT jm
    rw[h.a3 i (eC cT t.size) (dw i cT jm),t.a3 i cT jm]
  · intro i cT jm m
    exact Px
  · intro L x i cT
    rcases h.bR L x i cT with c5|⟨L1,r,q⟩
    · exact .inl (fQ t.size c5)
    grind
  · intro d bS L aJ x
    exact Q7
def df.refl(k)(b):df k b k b:=
  ⟨bC _,λ_ _=>rfl,λ_ _ _ a=>a,λ_ _ _ _=>rfl,λL a h d=>.inr ⟨L,a,d⟩,λ_ e L a g=>⟨e,L,a,g,.refl _ _⟩,rfl,rfl,rfl,rfl⟩
def df.trans{k aS a}{b e b5}(t:df k b aS e)(h:df aS e a b5):df k b a b5:=by
  have dw:∀i,i<b.a.heap.size->(∀L∈b.t,i∉L.ak)->∀L∈e.t,i∉L.ak:=by
    intro i cT jm L x g;rcases t.bR L x i g with c5|⟨w,s,p⟩
    · omega
    grind
  refine⟨fQ t.size h.size,?_,λi m y j=>h.mem _ _ _ (t.mem _ _ _ j),?_,?_,?_,h.os.trans t.os,h.tape.trans t.tape,h.output.trans t.output,h.own.trans t.own⟩
  · intro i cT
    rw[h.a3 i (by rw[t.own];exact cT),t.a3 i cT]
  · intro i cT jm m
    exact Px
  · intro L x i cT
    rcases h.bR L x i cT with c5|⟨L1,r,q⟩
    · exact .inl (fQ t.size c5)
    grind
  · intro d bS L aJ x
    exact Q7
def cN.tooV{k ap}{b aA}(e:bc k b)(a:cN k b ap aA):df k b ap aA:=
  ⟨a.size,λg d=>a.a3 g (e.own g d).1 (e.own g d).2,a.mem,a.bz,a.bR,a.box,a.os,a.tape,a.output,a.own⟩
def df.ext{k ap}{b aA}(a:df k b ap aA):fq k b ap aA:=⟨a.mem,a.box⟩
def cV.refl{k}{b}(a:bc k b):cV b b:=⟨rfl,rfl,rfl,bC _,λ_ _=>rfl,a.mem,rfl,rfl,rfl⟩
def cV.aU{k}{b aA}(a:cV b aA):df k b k aA:=
  ⟨a.size,λg d=>a.a3 g (.inl d),λg m o i=>by rw[a.D];exact i,λ_ _ _ _=>by rw[a.D],λL e g d=>.inr ⟨L,by rw[<-a.t];exact e,d⟩,
    λj h L aJ e=>⟨h,L,aJ,by rw[a.t];exact e,.refl _ _⟩,a.os,a.tape,a.output,a.own⟩
def cN.ext{k ap}{b aA}(a:cN k b ap aA):fq k b ap aA:=⟨a.mem,a.box⟩
section mono
variable {k ap:m aq}{b aA:a6}
def fq.hv(m:fq k b ap aA){a:Nat}{L}(j:b.t[a]?=f L)(o:c b.t=c k)(h:∀d,k[a]?=f d->d.dP=v):
    (∀d,ap[a]?=f d->d.dP=v)/\∃e,aA.t[a]?=f e/\e.v=L.v:=by have i:a<c k:=M;obtain⟨g,e,k1,q,r⟩:=m.box a (k[a]) L (bH i) j;have p:=h _ (bH i);generalize k[a]=d at *;rw[k1];cases d<;>cases g<;>simp_all[fM,aq.dP]
def cA.mono(i:fq k b ap aA)(s:c b.t=c k){aa}{x}(j:cA k b aa x):cA ap aA aa x:=by
  cases x with
  |c V=>exact Rd.mono i.mem j
  |any=>exact j
  |ptr a K=>
    obtain⟨h,L,N,e,z,F⟩:=j;obtain⟨q,d,k1,A⟩:=i.hv e s h;exact⟨q,d,N,k1,by grind,F⟩
  |x a S T O=>
    obtain⟨B,m,Q⟩:=j;obtain⟨u,d,k1,A,r⟩:=i.box a (k[a]) (b.t[a]'w) (bH m) (bH w);have y:a<c ap:=(cO.1 k1).1;refine⟨Rd.mono i.mem B,y,λM C q o g=>?_⟩;rw[g]at k1;cases k1;have aJ:=bH m;generalize k[a]=t at *;cases t with
    |x eP D I p=>
      obtain⟨R,J⟩:=r;grind
    |_=>simp[fM]at r
  |aM a=>
    obtain⟨h,L,e,z,F⟩:=j;obtain⟨q,d,k1,A⟩:=i.hv e s h;exact⟨q,d,k1,by grind,F⟩
  |O a U=>
    obtain⟨E,B,m,Q⟩:=j;obtain⟨u,d,k1,A,r⟩:=i.box a (k[a]) (b.t[a]'w) (bH m) (bH w);have y:a<c ap:=(cO.1 k1).1;refine⟨E,B,y,λM C q o g=>?_⟩;rw[g]at k1;cases k1;have aJ:=bH m;generalize k[a]=t at *;cases t with
    |q eP D I p=>
      obtain⟨R,J⟩:=r;grind
    |_=>simp[fM]at r
def bM.mono(g:fq k b ap aA)(a:c b.t=c k){z}{ah}(e:bM k b z ah):bM ap aA z ah:=by
  induction z generalizing ah with
  |nil=>cases ah<;>simp_all[bM]
  |cons i z d=>
    cases ah with
    |nil=>simp[bM]at e
    |cons h ah=>exact⟨e.1.mono g a,d e.2⟩
def ez.mono(h:fq k b ap aA)(a:c b.t=c k){aa}{g}(i:ez k b aa g):ez ap aA aa g:=by
  cases g with
  |Q m=>exact cA.mono h a i
  |agg j=>obtain⟨z,d,e⟩:=i;exact⟨z,d,e.mono h a⟩
def eY.mono(h:fq k b ap aA)(a:c b.t=c k){z}{ag}(e:eY k b z ag):eY ap aA z ag:=by
  induction z generalizing ag with
  |nil=>cases ag<;>simp_all[eY]
  |cons j z d=>
    cases ag with
    |nil=>simp[eY]at e
    |cons i g=>exact⟨e.1.mono h a,d e.2⟩
def bx.mono(h:fq k b ap aA)(a:c b.t=c k){aa}{d}(i:bx k b aa d):bx ap aA aa d:=by
  cases d with
  |n m=>exact ez.mono h a i
  |S j=>obtain⟨z,e,g⟩:=i;exact⟨z,e,g.mono h a⟩
  |any=>trivial
def b4.mono(h:fq k b ap aA)(a:c b.t=c k){z}{ag}(e:b4 k b z ag):b4 ap aA z ag:=by
  induction z generalizing ag with
  |nil=>cases ag<;>simp_all[b4]
  |cons j z d=>
    cases ag with
    |nil=>simp[b4]at e
    |cons i g=>exact⟨e.1.mono h a,d e.2⟩
end mono
def i_(e:m aq)(h:a6):m Deferred->m Nat->Prop
  |[],[]=>True
  |i::b,d::a=>(e[d]?=f .bl/\∃(L:Loc) (g:Nat),h.t[d]?=f L/\L.v=.int .i64 g/\i={target:=.collected g,args:=#[]})/\d∉a/\i_ e h b a
  |_,_=>False
def i_.mono{k ap}{b aA}(o:fq k b ap aA):∀{a:m Deferred} {d:m Nat},i_ k b a d->i_ ap aA a d
  |[],[],_=>trivial
  |[],_::_,e=>e.elim
  |_::_,[],e=>e.elim
  |w::a,u::d,⟨⟨i,L,e,j,x,s⟩,t,p⟩=>by
    obtain⟨g,h,k1,q,r⟩:=o.box u _ L i j;cases g<;>simp[fM]at r
    exact⟨⟨k1,h,e,q,by grind,s⟩,t,i_.mono o p⟩
def jO:m aq->Bool
  |[]=>l
  |.bl::_=>v
  |_::a=>jO a
def vA:∀{e:m aq},jO e=l->∀a∈e,a≠.bl
  |[],_,a,aJ=>by grind
  |d::g,h,a,aJ=>by
    have b:d≠.bl/\jO g=l:=by cases d<;>simp_all[jO]
    rcases e9.1 aJ with rfl|aJ
    · exact b.1
    · exact vA b.2 a aJ
theorem mv{b}{a}{wr}{L}(d:L∈b.t)(e:a∈L.ak):h4 b ⟨.obj a,wr,v⟩:=⟨rfl,.inr ⟨L,d,e⟩⟩
def du.Q{b}{a}(e:h4 b a):du b #[a]:=by intro F d;grind
def du.fh{b}{d a}(h:h4 b d)(g:h4 b a):du b #[d,a]:=by intro i e;grind
def bv{S:Prop}(t:S:=by simp<;>omega):S:=t
def cS{S:Prop}(t:S:=by((try simp only[U,U.X,a7,bw,dp,cY,cX,dk,gx,fh,gK,kB,List.length_take,dZ,eZ,gL,iJ,dm,dv,gi,ip,ft,hJ,hv,p6,ck,jD,jc,lD,nY,lC,a9,ba]);and_intros<;>first|rfl|omega|trivial|assumption)):S:=t
def hy{S:Prop}(t:S:=by((try simp only[*,U,U.X,a7,bw,dp,cY,cX,dk,gx,fh,gK,kB,List.length_take,dZ,eZ,gL,iJ,dm,dv,gi,ip,ft,hJ,hv,p6,ck,jD,jc,lD,nY,lC,a9,ba]);and_intros<;>first|rfl|omega|trivial|assumption)):S:=t
def lI{S:Prop}(t:S:=by(simp_all[U,U.X,a7,bw,dp,cY,cX,dk,gx,fh,gK,kB,List.length_take,dZ,eZ,gL,iJ,dm,dv,gi,ip,ft,hJ,hv,p6,ck,jD,jc,lD,nY,lC,a9,ba]<;>omega)):S:=t
def bE{S:Prop}(t:S:=by((try simp only[*,U,U.X,a7,bw,dp,cY,cX,dk,gx,fh,gK,kB,List.length_take,dZ,eZ,gL,iJ,dm,dv,gi,ip,ft,hJ,hv,p6,ck,jD,jc,lD,nY,lC,a9,ba,a2.l,a3.l,bg.l,bG.l,az.l,bu.l,bR.l,cw.l,e_.l,a2.U,a3.U,bg.U,bG.U,az.U,bu.U,bR.U,cw.U,e_.U]);and_intros<;>first|rfl|omega|trivial|assumption)):S:=t
abbrev ax(a:N):y:=.n (.Q (.c a))
abbrev aI(a b:Nat):y:=.n (.Q (.ptr a b))
abbrev cC(a:Nat)(b:pM):y:=.n (.Q (.O a b))
abbrev cL(a:Value):y:=.n (.Q (.c (.val a)))
variable {j A:Nat}{h:Int}{d i e u:Nat}{W:al}{H:Y->(Nat->Option Obj)->Prop}{L:Array Bool}{bB:Mem}{E:Nat}{P:aE}{br:ai->a6->Prop}{s:Code}{C:ai}{r:an}{b:a6}{o:al}{aa:Y}{p:ar}{α:Type}{η:ae->y}{ι:Type}{k:m aq}{I:bJ}{all:m an}{dr:Array al}{cap:m N}{cQ:m y}{k6:Nat->Option Obj}{ah:m aG}{bh:m (Nat×Bool)}{V:Nat->m N}{cP:ae}{gs:Array ai}{aV:m Nat}{cn:m Prop}{off:Nat}{op:BinOp}{aQ:Array an}{Z:m Prop}{bq:m an}{aA:a6}{ty:al}{val:Nat->Nat->Y}{z:m Y}{bi:ar}{ag:Array ae}{ap dh:m aq}{res:ι->y}{aS:ι->m aq}
def Kl{P}{p}:∀{o:m (String×DataW Unit)}{d:m MemPlace},DataW.LaidVars P p o d->∀{e:String}{h:DataW Unit},(e,h)∈o ->
  ∃i j b a q,P.globalNamed e=f i/\(P.globals[i]?).map (·.type)=f j/\p.var? P e=f b/\DataW.trod (λ_=>()) P p 0 (λ_=>l) v a j b.toList=f (h,q)
 |[],_,_,_,_,g=>by cases g
 |(z,s)::B,d,t,e,h,g=>by
  obtain⟨i,j,b,a,q,A,x,u,y,w,r,_⟩:=t;rcases e9.1 g with k|k
  .grind
  exact Kl r k
theorem Mp{P}{a:ar}(b:a.ShapedOpen P){C}{zero}{o}(d:C<P.globals.size)(h:(((begin P (λ_ _=>0) default).world.heap[C]?).bind Obj.row?)=f (zero,o)){j}(k:P.globalNamed j=f C){ah}(e:a.var? P j=f ah):
  a.heap[C]?=f (.cells ah o (0,0)):=by obtain⟨g,i,_⟩:=b.1 C zero o d h;unfold World.var? at e;grind
def Km{P}{b}{g:m (String×DataW Unit)}(p:laidMetH P g b)(h:b.ShapedOpen P){j e}{k}(F:(j,.iface e k)∈g.filter λE=>E.2.handleName?.isNone){C o s}{cx}{zero}(d:P.globalNamed j=f C)(y:(P.globals[C]?).map (·.type)=f o)(x:P.underlying o=f (.interface cx))(D:C<P.globals.size)(I:(((begin P (λ_ _=>0) default).world.heap[C]?).bind Obj.row?)=f (zero,s)):∃a:al×Y,b.heap[C]?=f (.cells #[.iface a.1 a.2] s (0,0)):=by obtain⟨w,q,_⟩:=(laidMetH_iff.1 p).1;obtain⟨R,t2,i,J,K,u,r,z,t⟩:=Kl q F;cases d.symm.trans u;cases y.symm.trans r;obtain⟨_,A,B,a,_⟩:=iface_of_trod x t;have:=Mp h D I d z;rw[Array.eq_one_of_toList a]at this;exact⟨(A,B),this⟩
def ZB{P}{a}{d}(p:laidMetH P d a)(y:a.ShapedOpen P){j}{e}{b}(w:(j,e)∈d.filter λx=>x.2.handleName?.isSome)(m:e.funcsIn?=n)(t:e.handleName?=f b){C i h ty}{zero}(F:P.globalNamed j=f C)(s:(P.cutTypes.find? (·.1== "internal/reflectlite.rtype")).map (·.2)=f h)(D:((aB P.types.size).filter λg=>P.rowNamed g b)=[ty])(E:C<P.globals.size)(R:(((begin P (λ_ _=>0) default).world.heap[C]?).bind Obj.row?)=f (zero,i)):a.heap[C]?=f (.cells #[.iface h (.agg #[typeHandle P ty])] i (0,0)):=by have:=(laidMetH_iff.1 p).2 _ w;rw[m]at this;obtain⟨name,B,k,o,u,q,r,A⟩:=this;cases t.symm.trans o;cases s.symm.trans u;have z:k∈(aB P.types.size).filter λg=>P.rowNamed g b:=jd.2 ⟨rg.2 q,r⟩;grind[Mp]
section
open Go.Conc (G listed)
def kx(e b:a6)(d:Array aO):Prop:=(∃g a,bc g e/\bc a b/\cN g e a b)/\du e d
structure af(P:aE) where
 b4:Bool
 rely:a6->a6->Prop
 dj:ai->a6->(ai->a6->Prop)->Prop
 bH:∀{b aA},rely b aA->cV b aA
 dR:Prop
class af.bX {P:aE} (q:af P):Prop where
 ok:q.dR
structure e2(b aA:a6):Prop where
 a:aA.a=b.a
 mem:∀i r aa,b.D i r=f aa->aA.D i r=f aa
 bz:∀i,(∀L∈b.t,i∉L.ak)->∀r,aA.D i r=b.D i r
 cell:∀i r aa,aA.D i r=f aa->b.a.cell? ⟨i,r,n⟩=f aa
 blk:∀i,(aA.own i∨∃L∈aA.t,i∈L.ak)->b.own i∨∃L∈b.t,i∈L.ak
structure nR(b aA:a6):Prop where
 a:aA.a=b.a
 t:aA.t=b.t
 own:aA.own=b.own
 e6:∀i r aa,aA.D i r=f aa->b.D i r=f aa
 mem:∀i r aa,b.D i r=f aa->aA.D i r=f aa∨b.own i
inductive cf {P:aE} (q:af P) (br:ai->a6->Prop):ai->a6->Prop
 |stop {C:ai} {b:a6}:br C b->cf q br C b
 |step {C:ai} {b:a6} (KV:a6->ai) (bt:a6->a6) (KQ:a6->Array aO):C.status=.running ->
   (∀s1,q.rely b s1->ao P q.b4 C s1.a=.go (KV s1) (bt s1).a (KQ s1))->(∀s1,q.rely b s1->kx s1 (bt s1) (KQ s1))->(∀s1,q.rely b s1->cf q br (KV s1) (bt s1))->cf q br C b
 |aP {C:ai} {b aA:a6}:e2 b aA->cf q br C aA->cf q br C b
 |b0 {C:ai} {b aA:a6}:q.dR->nR b aA->cf q br C aA->cf q br C b
 |dj {C:ai} {b:a6} {ac:ai->a6->Prop}:q.dj C b ac->(∀hr aA,ac hr aA->cf q br hr aA)->cf q br C b
section
variable {q:af P}
def cf.next(h:C.status=.running)(i:∀s,q.rely b s->∃a aA V,ao P q.b4 C s.a=.go a aA.a V/\kx s aA V/\cf q br a aA):cf q br C b:=by
 classical
 have d:∀s,∃a':ai×a6×Array aO,q.rely b s->ao P q.b4 C s.a=.go a'.1 a'.2.1.a a'.2.2/\kx s a'.2.1 a'.2.2/\cf q br a'.1 a'.2.1:=by
  intro s;by_cases e:q.rely b s
  .obtain⟨a,aA,V,c5⟩:=i s e;exact⟨(a,aA,V),λ_=>c5⟩
  exact⟨(C,s,#[]),λg=>absurd g e⟩
 refine .step (λs=>(Classical.choose (d s)).1) (λs=>(Classical.choose (d s)).2.1) (λs=>(Classical.choose (d s)).2.2) h M M ?_;grind
def e2.of(m:bc k b)(o:bc ap aA)(p:aA.a=b.a)(h:df k b ap aA):e2 b aA:=by
 have u:∀a g i,aA.D a g=f i->b.a.cell? ⟨a,g,n⟩=f i:=λa g i j=>by rw[<-p];exact o.mem a g i j
 have r:∀a g i,b.a.cell? ⟨a,g,n⟩=f i->a<b.a.heap.size:=by
  intro a g i j;rcases dT a b.a.heap.size with d|d
  .exact d
  simp[aH,AH d]at j
 refine⟨p,h.mem,λa e g=>?_,u,λa e=>?_⟩
 .rcases dT a b.a.heap.size with d|d
  .exact h.bz a d e g
  cases t:aA.D a g with
  |some i=>grind
  |none=>cases s:b.D a g with
   |none=>rfl
   |some i=>have:=r _ _ _ (m.mem _ _ _ s);omega
 rcases e with e|⟨L,q,e⟩
 .exact .inl (by rw[<-h.own];exact e)
 rcases h.bR L q a e with d|d
 .have:=o.lt L q a e;grind
 grind
def bc.rely(m:bc k b)(h:cV b aA):bc k aA:=by
 have s:fq k b k aA:=h.aU.ext;have X:∀u x,cA k b u x->cA k aA u x:=λu x w=>w.mono s m.len;refine⟨λj r u B=>h.mem j r u (by rw[<-h.D];exact B),by rw[h.t];exact m.len,?_,by rw[h.t];exact m.a1,?_,?_⟩
 .intro d D L aJ o;rw[h.t]at o;have e:=m.box d D L aJ o;have K:∀j∈L.ak,aA.a.heap[j]?=b.a.heap[j]?:=λj e=>h.a3 j (.inr ⟨L,b_ o,e⟩);cases D with
  |cells E F=>
   obtain⟨j,z,g,i,p,q⟩:=e;subst g;exact⟨j,z,a,by grind,p.mono s m.len,λr=>by rw[h.D,q]⟩
  |x E O R A=>
   obtain⟨g,i⟩:=e;refine⟨by rw[h.D];exact g,?_⟩;rcases i with⟨i,p⟩|⟨j,cap,z,i,p,q,t⟩
   .exact .inl ⟨i,by rw[h.D];exact p⟩
   subst i;exact .inr ⟨j,cap,z,a,by grind,q,λr C=>by rw[h.D,t r C]⟩
  |K H=>
   obtain⟨y,g,i,p,q⟩:=e;refine⟨y,g,λj r W=>?_,p,λj I r=>by rw[h.D,q j I]⟩;grind
  |M=>trivial
  |loop V U w=>
   obtain⟨d,tmps,fn,J,g,i,p,q,t⟩:=e;subst g;exact⟨d,tmps,fn,J,a,by grind,p,λT=>(q T).mono s m.len,λr=>by rw[h.D,t]⟩
  |bl=>
   obtain⟨w,g,i,p⟩:=e;subst g;exact⟨w,a,by grind,λr=>by rw[h.D,p]⟩
  |q E O R A=>
   rcases e with e|⟨j,S,z,Q,g,i,p,q,t,M,N⟩
   .exact .inl e
   subst g;exact .inr ⟨j,S,z,Q,a,by grind,p,q,t,by rw[h.D];exact M,λr=>by rw[h.D,N]⟩
 .intro L o j e;rw[h.t]at o;exact eC (m.lt L o j e) h.size
 intro j e;rw[h.own]at e;rw[h.t];exact⟨eC (m.own j e).1 h.size,(m.own j e).2⟩
def kx.aR(a:bc k b):kx b b #[]:=⟨⟨k,k,a,a,.refl _ _⟩,.nil⟩
def _root_.Go.Frame.ab(b:aG)(a:Act)(todo:m Item):aG:={b with tmps:=a.tmps,todo:=todo,defers:=a.defers++b.defers,mode:=.run}
variable {i:aG}{x:Act}{h:m Item}{eU:Bool}
def Jv(a:aG)(x)(s):(a.ab x s).eval=x.eval:=by funext b;cases b<;>rfl
def Mm:ao P eU (G (i.ab x (.code .skip::h)) ah) p=.go (G (i.ab x h) ah) p:=qU
def Mi{id}:ao P eU (G (i.ab x (.inBlock id::h)) ah) p=.go (G (i.ab x h) ah) p:=qU
theorem px{a b}:ao P eU (G (i.ab x (.code (.seq a b)::h)) ah) p=.go (G (i.ab x (.code a::.code b::h)) ah) p:=qU
def zg{s}{a b}{o}(e:x.eval s=.bool o):
  ao P eU (G (i.ab x (.code (.cond s a b)::h)) ah) p=.go (G (i.ab x (.code (if o then a else b)::h)) ah) p:=by
 have d:(i.ab x (.code (.cond s a b)::h)).eval s=.bool o:=by rw[Jv];exact e
 simp[Frame.ab]at d;simp[G,ao,stepG.exec,Frame.ab,d]
def zf{id}:ao P eU (G (i.ab x (.code (.block id s)::h)) ah) p=.go (G (i.ab x (.code s::.inBlock id::h)) ah) p:=qU
def Mk:ao P eU (G (i.ab x (.code (.loop s)::h)) ah) p=.go (G (i.ab x (.code s::.inLoop s::h)) ah) p:=qU
def Mj:ao P eU (G (i.ab x (.inLoop s::h)) ah) p=.go (G (i.ab x (.code s::.inLoop s::h)) ah) p:=qU
def Mh{id}{gk}(t:exitTo id h=f gk):ao P eU (G (i.ab x (.code (.exit id)::h)) ah) p=.go (G (i.ab x gk) ah) p:=FK
def zi{id}:ao P eU (G (i.ab x (.code (.region id aQ v)::h)) ah) p=.go (G (i.ab x (.inRegion aQ (aB aQ.size)::h)) ah) p:=qU
def Eb{id}:ao P eU (G (i.ab x (.code (.region id aQ l)::h)) ah) p =
  .go (G (i.ab x (.inRegion aQ (Region.schedule (P.follows .mixedOrders) aQ (p.tape p.drawn (.order i.fn id)))::h)) ah) {p with drawn:=p.drawn+1}:=by simp[G,ao,stepG.exec,Frame.ab,choose,Sem.run,Question.forced,Question.cut]
def vX:ao P eU (G (i.ab x (.inRegion aQ []::h)) ah) p=.go (G (i.ab x h) ah) p:=qU
def Ec(t:i.roundOf=n):ao P eU (G (i.ab x (.code .ret::h)) ah) p=.go (G {i.ab x (.code .ret::h)with mode:=.returning} ah) p:=FK
def Ea(t:i.roundOf=n):ao P eU (G (i.ab x []) ah) p=.go (G {i.ab x []with mode:=.returning} ah) p:=FK
def qk(aQ)(e)(bq)(aa):
  (i.ab x (.inRegion aQ (e::bq)::h)).finish aa=i.ab (x.put ((aQ[e]?).bind (·.dst)) aa) (.inRegion aQ bq::h):=by cases a:(aQ[e]?).bind (·.dst)<;>simp[Frame.finish,Frame.ab,Act.put,a]
def abO{bq}(a:aQ[e]?=f r)(d:aP r (yielded aQ x.tmps)=v):
  ao P eU (G (i.ab x (.inRegion aQ (e::bq)::h)) ah) p=.go (G (i.ab (x.put r.dst J) (.inRegion aQ bq::h)) ah) p:=by have b:=qk (i:=i) (x:=x) (h:=h) aQ e bq J;rw[a]at b;simp[nX]at b;rw[<-b];simp[G,ao,stepG.exec,Frame.ab,a,d]
theorem xX{a:ae->Y}{s}(h:r.op=.defer s){e}(b:(ab a r).run P p=.ok e bi):∃d,e=.defer d:=by
 simp[ab,h,cJ]at b;cases g:(resolve a s r.type).run P p with
 |ok d w2=>rw[g]at b;simp at b;grind
 |halt i w2=>simp_all
def zh{a:m Nat}(b:aQ[e]?=f r)(j:aP r (yielded aQ x.tmps)=l)(k:∀g,r.op≠.defer g):
  ao P eU (G (i.ab x (.inRegion aQ (e::a)::h)) ah) p=stepG.apply P l (i.ab x (.inRegion aQ (e::a)::h)) ah n (ab x.eval r) p:=by have d:=Jv i x (.inRegion aQ (e::a)::h);simp[Frame.ab]at d;simp[G,ao,stepG.exec,stepG.oper,Frame.oper?,Frame.ab,b,j,d];grind
theorem abU{bq}(a:aQ[e]?=f r)(g:aP r (yielded aQ x.tmps)=l)(k:i.kind≠.early)(j:(ab x.eval r).run P p=.ok (.value aa) bi):
  ao P eU (G (i.ab x (.inRegion aQ (e::bq)::h)) ah) p=.go (G (i.ab (x.put r.dst aa) (.inRegion aQ bq::h)) ah) bi (listed P i.fn x r p):=by have b:=qk (i:=i) (x:=x) (h:=h) aQ e bq aa;rw[a]at b;simp[nX]at b;have d:(i.kind==CallKind.early)=v:=M;rw[zh a g (λm o=>by grind[xX]),<-b];simp[stepG.apply,j,G,Frame.ab,d,GStep.after,listed]
theorem Ml{bq}(a:aQ[e]?=f r)(g:aP r (yielded aQ x.tmps)=l)(k:i.kind≠.early)(j:(ab x.eval r).run P p=.ok .skip bi):
  ao P eU (G (i.ab x (.inRegion aQ (e::bq)::h)) ah) p=.go (G (i.ab (x.put r.dst J) (.inRegion aQ bq::h)) ah) bi (listed P i.fn x r p):=by have b:=qk (i:=i) (x:=x) (h:=h) aQ e bq J;rw[a]at b;simp[nX]at b;have d:(i.kind==CallKind.early)=v:=M;rw[zh a g (λm o=>by grind[xX]),<-b];simp[stepG.apply,j,G,Frame.ab,d,GStep.after,listed]
def tw{bq}{b}{args}(a:aQ[e]?=f r)(g:aP r (yielded aQ x.tmps)=l)(k:i.kind≠.early)(j:(ab x.eval r).run P p=.ok (.enter b args) bi):
  ao P eU (G (i.ab x (.inRegion aQ (e::bq)::h)) ah) p=.go (G (Frame.enter P b args .normal) (i.ab x (.inRegion aQ (e::bq)::h)::ah)) bi (listed P i.fn x r p):=by have d:(i.kind==CallKind.early)=v:=M;rw[zh a g (λm o=>by grind[xX])];simp[stepG.apply,j,G,Frame.ab,d,GStep.after,listed]
structure ma(P:aE)(aj:a0)(hA:aG)(aa:Y)(b:a6):Prop where
 jg:hA.fn=aj
 mode:hA.mode=.returning
 defers:hA.defers=[]
 kind:hA.kind=.normal
 fn:∃fn,P.funcs[hA.fn]?=f fn/\∀p,(∀i r bz,b.D i r=f bz->p.cell? ⟨i,r,n⟩=f bz)->(results fn hA.tmps).run P p=.ok aa p/\∀aw∈(results fn hA.tmps).events P p #[],∃i r bz,aw=⟨.cell ⟨i,r,n⟩,v,v⟩/\b.D i r=f bz
def ma.mono{g}{hA}(o:ma P g hA aa b)(r:∀e h i,b.D e h=f i->aA.D e h=f i):ma P g hA aa aA:=by obtain⟨a,d,m,j,fn,k,q⟩:=o;refine⟨a,d,m,j,fn,k,λs p=>?_⟩;grind
def du.seen{b}{V}{fn}(e:du b V):du b (seen P fn V):=λd a=>e d (Go.Conc.mem_seen a)
def abN{k}{C s}(g:ma P k C aa b)(p)(m:∀a e h,b.D a e=f h->p.cell? ⟨a,e,n⟩=f h):∃d,ao P eU (G C (s::ah)) p=.go (G (s.finish aa) ah) p d/\∀i∈d,∃a e h,i=⟨.cell ⟨a,e,n⟩,v,v⟩/\b.D a e=f h:=by obtain⟨fn,o,j⟩:=g.fn;obtain⟨t,r⟩:=j p m;refine⟨seen P C.fn ((results fn C.tmps).events P p #[]),?_,λi q=>r i (Go.Conc.mem_seen q)⟩;simp[G,ao,unwind,doReturn,g.mode,g.defers,g.kind,o,t,GStep.after]
end
end
structure b0(E:Nat)(k:m aq)(b:a6)(I:bJ)(x:Act):Prop where
 size:x.tmps.size=E
 defers:∃nC,i_ k b x.defers nC
 aL:∀o,bx k b (x.tmps.getD o J) (look I o)
def b0.mono{E}{k ap}{b aA}{I}{x}(g:df k b ap aA)(e:c b.t=c k)(a:b0 E k b I x):b0 E ap aA I x:=
 ⟨a.size,a.defers.imp λ_ d=>d.mono g.ext,λh=>(a.aL h).mono g.ext e⟩
def b0.rely{x}(e:cV b aA)(a:bc k b)(d:b0 E k b I x):b0 E k aA I x:=d.mono e.aU a.len
def b0.put{E}{k}{b}{I}{x}(a:b0 E k b I x){O}(e:O<E){aa}{F}(j:bx k b aa F):b0 E k b ((O,F)::I) (x.put (f O) aa):=by
 refine⟨by simp[Act.put,a.size],a.defers,λd=>?_⟩;simp[Act.put,look];by_cases g:O=d
 .subst g;rw[show ad O O=l from sv O];have h:O<x.tmps.size:=by rw[a.size];exact e
  simp[hu,uB h,h0,cond];exact j
 have:ad O d=v:=tZ;rw[this];have i:=a.aL d;simp[hu]at i⊢;grind
def iB(h a:bJ):Prop:=∀b d g e,bx b d g (look h e)->bx b d g (look a e)
def b0.le{dD}{x}(d:iB I dD)(a:b0 E k b I x):b0 E k b dD x:=
 ⟨a.size,a.defers,λe=>d _ _ _ _ (a.aL e)⟩
abbrev fw:=Exit->bJ->m aq->Prop
def kG(h:af P)(g:ai->a6->Prop)(i:aG)(k:m Item)(a:m aG):Exit->Act->a6->Prop
 |.normal,b,d=>cf h g (G (i.ab b k) a) d
 |.exit id,b,d=>∀pre,(∀e,exitTo id (pre++e)=exitTo id e)->cf h g (G (i.ab b (.code (.exit id)::(pre++k))) a) d
 |.ret,b,d=>∀pre,cf h g (G (i.ab b (.code .ret::pre)) a) d
 |.panic j,b,d=>∀o,cf h g (G {i.ab b o with mode:=.panicking j} a) d
 |_,_,_=>False
section
variable {q:af P}{i:aG}{h:m Item}{x:Act}
def kG.cons{g}(o:∀id a,exitTo id (g::a)=exitTo id a){e}(m:e≠.normal)(d:kG q br i h ah e x b):kG q br i (g::h) ah e x b:=by
 cases e with
 |normal=>grind
 |exit id=>
  intro pre k;have:=d (pre++[g]) (λa=>by grind);grind
 |ret=>exact d
 |panic j=>exact d
 |goto p=>exact d
 |outgrown=>exact d
def cf.ctl{a}(g:bc k b)(j:C.status=.running)(i:∀h,ao P q.b4 C h=.go a h #[])(m:∀d,cV b d->cf q br a d):cf q br C b:=
 .next j λd e=>⟨a,d,#[],i d.a,.aR (g.rely (q.bH e)),m d (q.bH e)⟩
def uG{j}{u s}(t:bc k b)(m:ma P j u aa b)(o:∀d,cV b d->cf q br (G (s.finish aa) ah) d):cf q br (G u (s::ah)) b:=by refine .next a λd w=>?_;have e:=q.bH w;have h:=t.rely e;obtain⟨g,p,y⟩:=abN (eU:=q.b4) (s:=s) (ah:=ah) m d.a e.mem;refine⟨_,d,g,p,⟨⟨k,k,h,h,.refl _ _⟩,λi r=>?_⟩,o d e⟩;obtain⟨A,B,z,rfl,x⟩:=y i r;exact⟨a,a,.inr (.inr ⟨a,z,by rw[e.D];exact x⟩)⟩
def xd(k:Nat->Act->a6->Prop)(y:∀j x b,k j x b->∃o,bc o b/\∀g,cV b g->k j x g)(round:∀j x b,k j x b->(∀d e m,m<j->k m d e->cf q br (G (i.ab d (.inLoop s::h)) ah) e)->cf q br (G (i.ab x (.code s::.inLoop s::h)) ah) b)(B:k j x b):
  cf q br (G (i.ab x (.code (.loop s)::h)) ah) b:=by
 have key:∀j x b,k j x b->cf q br (G (i.ab x (.inLoop s::h)) ah) b:=by
  intro j;induction j using Nat.strongRecOn with
  |_ j A=>
   intro x b w;obtain⟨o,r,t⟩:=y j x b w;exact .ctl r a (λC=>Mj) λg u=>round j x g (t g u) λd e m z p=>A m z d e p
 obtain⟨o,r,t⟩:=y j x b B;exact .ctl r a (λC=>Mk) λg u=>round j x g (t g u) λd e m _ p=>key m d e p
end
def b3(p:af P)(k:Nat)(u:Code)(aM:fw)(t:bJ)(i:m aq):Prop:=
 ∀h q,b0 k i h t q->bc i h->∀j s g (o:ai->a6->Prop),j.kind≠.early ->
  (∀r d a b e,aM r d a->b0 k a b d e->bc a b->df i h a b->kG p o j s g r e b)->cf p o (G (j.ab q (.code u::s)) g) h
def nT(a:m an):m Nat->m an->Prop
 |[],[]=>True
 |d::idx,e::b=>a.toArray[d]?=f e/\nT a idx b
 |_,_=>False
def ff(r:af P)(p:Nat)(d e:m an)(aM:bJ->m aq->Prop)(u:bJ)(k:m aq):Prop:=
 ∀j s,b0 p k j u s->bc k j->∀(o:aG) t i (q:ai->a6->Prop) idx,o.kind≠.early->nT d idx e ->
  (∀g a b h,aM g a->b0 p a b g h->bc a b->df k j a b->cf r q (G (o.ab h t) i) b)->cf r q (G (o.ab s (.inRegion d.toArray idx::t)) i) j
section rules
variable {q:af P}{aM:fw}
def b3.mono{o}(x:b3 q E s aM I k)(y:∀a I k,aM a I k->o a I k):b3 q E s o I k:=
 λb r u j t A g p i h=>x b r u j t A g p i λa d ap aA e B z w m=>h a d ap aA e (y _ _ _ B) z w m
def b3.le{s}{dD}(o:b3 q E s aM dD k)(g:iB I dD):b3 q E s aM I k:=
 λr i m e j p a h d b=>o r i (m.le g) e j p a h d b
theorem b3.skip(m:aM .normal I k):b3 q E .skip aM I k:=λs e i d p r h o _ g=>
 .ctl d a (λ_=>Mm) λj b=>g .normal I k j e m (i.rely b d) (d.rely b) b.aU
def b3.ret(h:aM .ret I k):b3 q E .ret aM I k:=λj b g a o i e m _ d=>d .ret I k j b h g a (.refl _ _) i
theorem b3.exit{id}(h:aM (.exit id) I k):b3 q E (.exit id) aM I k:=λi b g a m o e j _ d=>by have:=d (.exit id) I k i b h g a (.refl _ _) [] bn;grind
def v8(next:bJ->m aq->Prop)(aM:fw):fw
 |.normal,a,b=>next a b
 |d,a,b=>aM d a b
theorem b3.seq{M y}(S:b3 q E M (v8 (b3 q E y aM) aM) I k):b3 q E (.seq M y) aM I k:=by
 intro V Q T d A J e z h g;refine .ctl d a (λ_=>px) λU b=>?_;refine S U Q (T.rely b d) (d.rely b) A (.code y::J) e z h ?_;intro p N O u m K F C x;have B:=b.aU.trans x;cases p with
 |normal=>exact K u m F C A J e z h λp R j w o t r s i=>g p R j w o t r s (B.trans i)
 |_=>exact kG.cons (λ_ _=>rfl) D (g _ _ _ _ _ K F C B)
theorem b3.cond{s}{M N}{o}{u}(T:s=.tmp u)(B:look I u=ax (.bool o))(S:o=l->b3 q E M aM I k)(O:o=v->b3 q E N aM I k):b3 q E (.cond s M N) aM I k:=by
 intro V p y g x D j w m A;have t:=y.aL u;rw[B]at t;have z:p.eval s=.bool o:=by subst T;generalize z:p.tmps.getD u J=W at t;simp[bx,ez,cA]at t;cases t;exact z
 refine .ctl g a (λ_=>zg z) λC e=>?_;have K:∀r h b d i,aM r h b->b0 E b d h i->bc b d->df k C b d->kG q w x D j r i d:=λr h b d i U R Q F=>A r h b d i U R Q (e.aU.trans F);cases o
 .exact O a C p (y.rely e g) (g.rely e) x D j w m K
 exact S a C p (y.rely e g) (g.rely e) x D j w m K
def uL(id:Nat)(aM:fw):fw
 |.exit a,b,d=>if a=id then aM .normal b d else aM (.exit a) b d
 |e,b,d=>aM e b d
theorem b3.block{id}(w:b3 q E s (uL id aM) I k):b3 q E (.block id s) aM I k:=by
 intro A p x e r h g o i lR;refine .ctl e a (λ_=>zf) λy d=>?_;refine w y p (x.rely d e) (e.rely d) r (.inBlock id::h) g o i ?_;intro aw dD ap j fO bl C aj m;have O:=d.aU.trans m;cases aw with
 |normal=>
  exact Pg
 |exit b=>
  simp[uL]at bl;split at bl
  .exact Q0
  .rename_i u
   intro pre vh;have:=lR (.exit b) dD ap j fO bl C aj O (pre++[.inBlock id]) (λgk=>by
    rw[mi,vh];have:(id==b)=v:=M
    simp[exitTo,this])
   grind
 |ret=>exact lR _ _ _ _ _ bl C aj O
 |panic t=>exact lR _ _ _ _ _ bl C aj O
 |goto z=>exact lR _ _ _ _ _ bl C aj O
 |outgrown=>exact lR _ _ _ _ _ bl C aj O
def b3.loop{br:Type}(w:br->Prop)(h:br->bJ)(b:br->m aq)(y:br->Nat)(e)(ae:w e)(Y:iB I (h e))(V:b e=k)(round:∀e,w e->b3 q E s (v8 (λz A=>∃d,w d/\y d<y e/\iB z (h d)/\A=b d) aM) (h e) (b e)):b3 q E (.loop s) aM I k:=by
 intro ab ag Z N T W F br M K;subst V;refine xd (λj g aA=>∃d,w d/\b0 E (b d) aA (h d) g/\bc (b d) aA/\df (b e) ab (b d) aA/\y d=j) ?_ ?_ ⟨e,ae,Z.le Y,N,.refl _ _,a⟩
 .rintro j g aA ⟨d,u,r,C,x,J⟩;exact⟨b d,C,λai o=>⟨d,u,r.rely o C,C.rely o,x.trans o.aU,J⟩⟩
 rintro j g aA ⟨d,u,r,C,x,rfl⟩ aa;refine round d u aA g r C T (.inLoop s::W) F br M ?_;intro J ah S O B Q p t i;cases J with
 |normal=>
  obtain⟨R,af,X,U,rfl⟩:=Q;exact aa B O (y R) X ⟨R,af,p.le U,t,x.trans i,a⟩
 |_=>exact kG.cons (λ_ _=>rfl) D (K _ _ _ _ _ Q p t (x.trans i))
end rules
def bM.cJ{ah}(d:bM k b z ah):c z=c ah:=by
 induction z generalizing ah with
 |nil=>cases ah<;>simp_all[bM]
 |cons g z a=>
  cases ah with
  |nil=>simp[bM]at d
  |cons e ah=>simp[a d.2]
def cA.cell{k}{b}{aa}{g}(a:cA k b aa g):dQ aa=l:=by
 cases g with
 |c p=>exact Rd.cell a
 |ptr e h=>obtain⟨_,_,_,_,_,rfl⟩:=a;rfl
 |x e j m i=>exact Rd.cell a.1
 |aM e=>obtain⟨_,_,_,_,d⟩:=a;exact d
 |O e o=>obtain⟨_,d,_⟩:=a;exact d.cell
 |any=>exact a
theorem bM.get{ah}(h:bM k b z ah){x}(d:ah[u]?=f x):∃e,z[u]?=f e/\cA k b e x:=by
 induction z generalizing ah u with
 |nil=>cases ah<;>simp_all[bM]
 |cons e z g=>
  cases ah with
  |nil=>grind
  |cons i ah=>
   cases u with
   |zero=>simp at d;subst d;exact⟨e,a,h.1⟩
   |succ u=>simp at d;obtain⟨o,j,m⟩:=g h.2 d;grind
def bM.cell{k}{b}{z}{ah}(e:bM k b z ah):∀h∈z,h.oneCell'=l:=by
 induction z generalizing ah with
 |nil=>simp
 |cons h z d=>
  cases ah with
  |nil=>simp[bM]at e
  |cons i ah=>
   intro g a;rcases e9.1 a with rfl|a
   .have:=cA.cell e.1;cases g<;>simp_all[dQ,Value.oneCell']
   exact d e.2 g a
def bM.append{i}{ah a}(e:bM k b z ah)(g:bM k b i a):bM k b (z++i) (ah++a):=by
 induction z generalizing ah with
 |nil=>cases ah<;>simp_all[bM]
 |cons j z d=>
  cases ah with
  |nil=>simp[bM]at e
  |cons h ah=>exact⟨e.1,d e.2⟩
def bM.take{k}{b}{z}{ah}(d:bM k b z ah)(h):bM k b (z.take h) (ah.take h):=by
 induction z generalizing ah h with
 |nil=>cases ah<;>simp_all[bM]
 |cons g z a=>
  cases ah with
  |nil=>simp[bM]at d
  |cons e ah=>cases h with
   |zero=>simp[bM]
   |succ h=>exact⟨d.1,a d.2 h⟩
def bM.drop{k}{b}{z}{ah}(d:bM k b z ah)(h):bM k b (z.drop h) (ah.drop h):=by
 induction z generalizing ah h with
 |nil=>cases ah<;>simp_all[bM]
 |cons g z a=>
  cases ah with
  |nil=>simp[bM]at d
  |cons e ah=>cases h with
   |zero=>exact d
   |succ h=>simpa using a d.2 h
theorem bc.block(a:bc k b){r}(d:b.D i r=f aa):i<b.a.heap.size:=by
 have:=a.mem i r aa d;rcases dT i b.a.heap.size with a|a
 .exact a
 simp[aH,AH a]at this
def bc.same(g:bc k b)(u:bi.heap=b.a.heap):bc k {b with a:=bi}:=by
 have M:∀j,bi.cell? j=b.a.cell? j:=λj=>by simp[aH,u]
 have S:∀p j,cA k b p j->cA k {b with a:=bi} p j:=λp j o=>by cases j<;>exact o
 have x:∀z d,bM k b z d->bM k {b with a:=bi} z d:=by
  intro z;induction z with
  |nil=>intro d o;cases d<;>simp_all[bM]
  |cons p z A=>intro d o;cases d with
   |nil=>simp[bM]at o
   |cons j d=>exact⟨S _ _ o.1,A _ o.2⟩
 refine⟨λe D p y=>by rw[M];exact g.mem e D p y,g.len,?_,g.a1,λL x e i=>by show e<bi.heap.size;rw[u];exact g.lt L x e i,λe i=>⟨by show e<bi.heap.size;rw[u];exact(g.own e i).1,(g.own e i).2⟩⟩;intro B s L aJ r;have:=g.box B s L aJ r;cases s with
 |cells C E=>
  obtain⟨e,z,a,h,m,q⟩:=this;exact⟨e,z,a,by grind,x _ _ m,q⟩
 |x C K N w=>
  obtain⟨a,h⟩:=this;refine⟨a,?_⟩;grind
 |K H=>
  obtain⟨t,a,h,m,q⟩:=this;exact⟨t,a,λe D i=>by grind,m,q⟩
 |M=>trivial
 |loop U T o=>
  obtain⟨B,tmps,fn,F,a,h,m,q,J⟩:=this;exact⟨B,tmps,fn,F,a,by grind,m,λR=>bx.mono (b:=b) (ap:=k) (aA:={b with a:=bi}) ⟨λ_ _ _ g=>g,λ_ s L g I=>⟨s,L,g,I,.refl _ _⟩⟩ g.len (q R),J⟩
 |bl=>
  obtain⟨o,a,h,m⟩:=this;exact⟨o,a,by grind,m⟩
 |q C K N w=>
  rcases this with a|⟨e,Q,z,O,a,h,m⟩
  .exact .inl a
  exact .inr ⟨e,Q,z,O,a,by grind,m⟩
def cN.same(o:bi.heap=b.a.heap)(e:bi.os=b.a.os)(j:bi.tape=b.a.tape)(m:bi.output=b.a.output):cN k b k {b with a:=bi}:=
 ⟨by grind,λi _ _=>by grind,λ_ _ _ a=>a,λ_ _ _ _=>rfl,λL a i d=>.inr ⟨L,a,d⟩,λ_ g L a h=>⟨g,L,a,h,.refl _ _⟩,e,j,m,rfl⟩
def ey.b_{r}{L}(p:fq k b ap aA)(q:c b.t=c k)(i:∀g∈L.ak,aA.a.heap[g]?=b.a.heap[g]?/\∀j,aA.D g j=b.D g j)(o:ey k b r L):ey ap aA r L:=by
 cases r with
 |cells y B=>
  obtain⟨g,z,d,e,h,m⟩:=o;subst d;obtain⟨k1,t⟩:=i g D;exact⟨g,z,a,by grind,h.mono p q,λj=>by grind⟩
 |x y F I u=>
  obtain⟨d,e⟩:=o;refine⟨d.mono p.mem,?_⟩;rcases e with⟨e,h⟩|⟨g,cap,z,e,h,m,w⟩
  .exact .inl ⟨e,h.mono p.mem⟩
  grind
 |K H=>
  obtain⟨s,d,e,h,m⟩:=o;refine⟨s,d,λg j Q=>?_,h,λg R j=>by grind⟩;grind
 |M=>trivial
 |loop O N x=>
  obtain⟨A,tmps,fn,C,d,e,h,m,w⟩:=o;subst d;obtain⟨k1,t⟩:=i A D;exact⟨A,tmps,fn,C,a,by grind,h,λM=>(m M).mono p q,λj=>by grind⟩
 |bl=>
  obtain⟨x,d,e,h⟩:=o;subst d;obtain⟨k1,t⟩:=i x D;exact⟨x,a,by grind,λj=>by grind⟩
 |q y F I u=>
  rcases o with d|⟨g,K,z,J,d,e,h,m,w,E,S⟩
  .exact .inl d
  subst d;obtain⟨k1,t⟩:=i g D;exact .inr ⟨g,K,z,J,a,by grind,h,m,w,E.mono p.mem,λj=>by grind⟩
def a6.bV(a:a6)(b:al)(z:m Y):a6:=
 {t:=a.t++[⟨.pointer (f ⟨a.a.heap.size,0,n⟩),[a.a.heap.size]⟩],D:=a.D,a:=a.a.alloc (.cells z.toArray b),own:=a.own}
theorem iV(a:ar)(r)(b:i<a.heap.size):(a.alloc r).heap[i]?=a.heap[i]?:=by show(a.heap.push r)[i]?=a.heap[i]?;grind
theorem lT(a:ar)(r):(a.alloc r).heap[a.heap.size]?=f r:=by show(a.heap.push r)[a.heap.size]?=f r;simp
def cN.bV{k}(b)(W)(z)(h):cN k b (k++[h]) (b.bV W z):=by
 refine⟨by simp[a6.bV],?_,λ_ _ _ m=>m,λ_ _ _ _=>rfl,?_,?_,a,a,a,a⟩
 .intro i cT _;exact iV _ _ cT
 .intro L e i cT;simp[a6.bV,fx,gJ]at e;grind
 intro g d L j e;have o:g<c b.t:=(cO.1 e).1;have p:g<c k:=(cO.1 j).1;exact⟨d,L,by grind,by simp[a6.bV];grind,.refl _ _⟩
def bc.bV{k}{b}(h:bc k b){W}{z}{ah}(B:bM k b z ah):bc (k++[.cells W ah]) (b.bV W z):=by
 have u:=cN.bV (k:=k) b W z (.cells W ah);have A:(b.bV W z).a.heap.size=b.a.heap.size+1:=by simp[a6.bV]
 refine⟨?_,by simp[a6.bV,h.len],?_,?_,?_,?_⟩
 .intro i r aa j;have g:=h.block j;have:=h.mem i r aa j;rw[<-this];simp[aH,a6.bV];grind[iV]
 .intro d y L aJ e;rcases Nat.lt_trichotomy d (c k) with x|rfl|C
  .rw[j3 x]at aJ;simp[a6.bV]at e;rw[j3 (by rw[h.len];exact x)]at e;refine(h.box d y L aJ e).b_ u.ext h.len λi g=>⟨?_,λ_=>rfl⟩
   have:=h.lt L (b_ e) i g;exact iV _ _ this
  .simp at aJ;subst aJ;simp[a6.bV]at e;rw[hl (by rw[h.len];grind)]at e;simp[h.len]at e;subst e;refine⟨b.a.heap.size,z,a,lT _ _,B.mono u.ext h.len,λr=>?_⟩;cases j:b.D b.a.heap.size r with
   |none=>exact j
   |some aa=>have:=h.block j;omega
  grind
 .intro d t L p e m i g o;simp[a6.bV]at e m;have w:∀d L,(b.t++[⟨.pointer (f ⟨b.a.heap.size,0,n⟩),[b.a.heap.size]⟩])[d]?=f L->(b.t[d]?=f L)∨(d=c b.t/\L.ak=[b.a.heap.size]):=M;rcases w d L e with q|⟨rfl,q⟩<;>rcases w t p m with s|⟨rfl,s⟩
  .exact h.a1 d t L p q s i g o
  .have:=h.lt L (b_ q) i g;grind
  .have:=h.lt p (b_ s) i o;grind
  rfl
 .intro L e i g;rw[A];simp[a6.bV,fx,gJ]at e;rcases e with e|rfl
  .have:=h.lt L e i g;omega
  grind
 intro i g;obtain⟨E,D⟩:=h.own i g;refine⟨by grind,λL e=>?_⟩;simp[a6.bV,fx,gJ]at e;grind
def bc.cW(d:bc k b){cj}(p:b.a.heap.size<=bi.heap.size)(h:∀i,i<b.a.heap.size->bi.heap[i]?=b.a.heap[i]?)(q:∀i,i<b.a.heap.size->∀r,cj i r=b.D i r)(y:∀i,b.a.heap.size<=i->∀r aa,cj i r=f aa->bi.cell? ⟨i,r,n⟩=f aa)(s:bi.os=b.a.os)(w:bi.tape=b.a.tape)(t:bi.output=b.a.output):bc k ⟨b.t,cj,bi,b.own⟩/\cN k b k ⟨b.t,cj,bi,b.own⟩:=by
 have m:cN k b k ⟨b.t,cj,bi,b.own⟩:=
  ⟨p,λi a _=>h i a,λi r aa e=>by rw[<-e];exact q i (d.block e) r,λi a _ r=>q i a r,λL d i a=>.inr ⟨L,d,a⟩,λ_ o L d u=>⟨o,L,d,u,.refl _ _⟩,s,w,t,rfl⟩
 refine⟨⟨?_,d.len,?_,d.a1,λL g i a=>eC (d.lt L g i a) p,λi a=>⟨eC (d.own i a).1 p,(d.own i a).2⟩⟩,m⟩
 .intro i r aa e;rcases dT i b.a.heap.size with a|a
  .have j:b.D i r=f aa:=M;rw[<-d.mem i r aa j];simp[aH];grind
  grind
 intro x o L aJ g;exact(d.box x o L aJ g).b_ m.ext d.len λi a=>⟨h i (d.lt L (b_ g) i a),λr=>q i (d.lt L (b_ g) i a) r⟩
def bc.write(j:bc k b){L}{ah h}{q}(aJ:k[d]?=f (.cells W ah))(p:b.t[d]?=f L)(x:L.ak=[i])(B:bM k b q h):bc (k.set d (.cells W h)) {b with a:=b.a.setRow i q.toArray}/\cN k b (k.set d (.cells W h)) {b with a:=b.a.setRow i q.toArray}:=by
 have w:d<c k:=(cO.1 aJ).1;obtain⟨s,z,t,u,E,A⟩:=j.box d _ L aJ p;subst t;simp at x;subst x;have o:cN k b (k.set d (.cells W h)) {b with a:=b.a.setRow s q.toArray}:=by
  refine⟨by simp,?_,λ_ _ _ j=>j,λ_ _ _ _=>rfl,λL j i g=>.inr ⟨L,j,g⟩,?_,a,a,a,a⟩
  .intro i g jm;exact setRow_other _ _ _ _ (λaw=>jm _ (b_ p) z_)
  intro m bS cv e lQ;by_cases aw:d=m
  .subst aw;rw[aJ]at e;cases e;exact⟨_,cv,by rw[io w],lQ,by simp[fM]⟩
  exact Fc
 refine⟨⟨?_,by simp[j.len],?_,j.a1,λL p i g=>by simpa using j.lt L p i g,λi g=>by simpa using j.own i g⟩,o⟩
 .intro i r aa C3;have C:i≠s:=λaw=>by grind
  rw[<-j.mem i r aa C3];exact Qc
 intro m bS cv e lQ;by_cases aw:d=m
 .subst aw;rw[io w]at e;cases e;rw[p]at lQ;cases lQ;exact⟨s,q,a,setRow_heap _ _ _ _ _ _ u,B.mono o.ext j.len,A⟩
 rw[kA aw]at e;refine(j.box m bS cv e lQ).b_ o.ext j.len λi g=>⟨setRow_other _ _ _ _ λy=>?_,λ_=>rfl⟩
 subst y;exact aw (j.a1 d m _ cv p lQ i D g)
def Ar(b:m aq)(d:a6):Next->y->Prop
 |.value e,a=>bx b d e a
 |.skip,a=>a=.any
 |_,_=>False
def a1(P:aE)(j:an)(h:ae->y)(g:m aq)(o:y)(b:m aq):Prop:=
 ∀e d,bc g e->(∀k,bx g e (d k) (h k))->∃i a,(ab d j).run P e.a=.ok i a.a/\Ar b a i o/\bc b a/\cN g e b a/\du e ((ab d j).events P e.a #[])
def a1.dt{g}(j:∀b a,bc k b->(∀h,bx k b (a h) (η h))->∃aa,(ab a r).run P b.a=.ok (.value aa) b.a/\bx k b aa g/\du b ((ab a r).events P b.a #[])):a1 P r η k g k:=
 λb a d e=>let ⟨aa,c5,dE,i⟩:=j b a d e;⟨.value aa,b,c5,dE,d,.refl _ _,i⟩
def a1.aR{g}(j:∀b a,bc k b->(∀h,bx k b (a h) (η h))->∃aa,(ab a r).run P b.a=.ok (.value aa) b.a/\bx k b aa g/\(ab a r).events P b.a #[]=#[]):a1 P r η k g k:=
 λb a d e=>let ⟨aa,c5,dE,i⟩:=j b a d e;⟨.value aa,b,c5,dE,d,.refl _ _,by rw[i];exact .nil⟩
def vl:IntKind->Int->Bool
 |.i64,.ofNat a=>ay a 9223372036854775807
 |.i64,.negSucc a=>ay a 9223372036854775807
 |.u8,.ofNat a=>ay a 255
 |.i32,.ofNat a=>ay a 2147483647
 |.i32,.negSucc a=>ay a 2147483647
 |.u64,.ofNat a=>ay a 18446744073709551615
 |.u32,.ofNat a=>ay a 4294967295
 |_,_=>v
def Zs{h}{j}(a:vl h j=l):a7 h j:=by cases h<;>cases j<;>simp only[vl,a7]at a⊢<;>first|(cases a;done)|(have:=fs a;grind)
def k2:Y->Option N
 |.int a b=>cond (vl a b) (f (.int a b)) n
 |.bool e=>f (.bool e)
 |.string d=>cond (ay d.size 9223372036854775807) (f (.T d.data.toList)) n
 |.slice n 0 0=>f (.B l 0 0 (λ_=>[]))
 |.pointer n=>f .bo
 |.nilIface=>f .bD
 |.nilFunc=>f .dp
 |.map g=>f (.val (.map g))
 |_=>n
theorem Rd.dJ{o}{h}{a}:Rd bB (.slice a 0 0) (.B o h 0 V):=
 Rd.B 0 0 (λ_ _=>J) (bC _) w bn w w w w
def Rd.fl{bB}{aa}{s}(a:k2 aa=f s):Rd bB aa s:=by
 unfold AM.k2 at a;split at a<;>first
  |(rename_i d e;cases b:vl d e<;>rw[b]at a<;>cases a;exact .int (Zs b))
  |(rename_i g;cases b:ay g.size 9223372036854775807<;>rw[b]at a<;>cases a;exact .T rfl (by rw[m9];exact fs b))
  |(cases a;done)
  |(cases a;exact .bool)
  |(cases a;exact Rd.dJ)
  |(cases a;exact .bo)
  |(cases a;exact .bD)
  |(cases a;exact .dp)
  |(cases a;exact .val rfl)
def Tk:Option N->y
 |some a=>ax a
 |none=>.any
def bD(a:bJ):ae->y
 |.tmp d=>look a d
 |.const e=>Tk (k2 e)
 |.func b=>ax (.fn (.func b) [] [])
 |.global _=>.any
theorem eF{e}(g:b0 E k b I e)(d):bx k b (e.eval d) (bD I d):=by
 cases d with
 |tmp j=>exact g.aL j
 |const m=>
  simp[bD,Act.eval];cases i:k2 m with
  |none=>trivial
  |some o=>exact Rd.fl i
 |func h=>
  exact Rd.fn [] [] a a (λ_=>J) (λ_=>J) D D D D
 |global h=>trivial
def ga:Option Nat->y->bJ->bJ
 |some b,d,a=>(b,d)::a
 |none,_,a=>a
def rk{o:af P}{j:aG}{h}{i}{bq}(z:j.kind≠.early)(t:aQ[e]?=f r)(x:aP r (yielded aQ i.tmps)=l)(s:∀g,cV b g->∃k d m,(ab i.eval r).run P g.a=.ok k d.a/\(k=.value m∨(k=.skip/\m=J))/\kx g d ((ab i.eval r).events P g.a #[])/\cf o br (G (j.ab (i.put r.dst m) (.inRegion aQ bq::h)) ah) d):
  cf o br (G (j.ab i (.inRegion aQ (e::bq)::h)) ah) b:=by refine .next a λg u=>?_;obtain⟨k,d,m,y,w,p,q⟩:=s g (o.bH u);refine⟨_,d,Go.Conc.listed P j.fn i r g.a,?_,⟨p.1,p.2.seen⟩,q⟩;grind[abU,Ml]
theorem a1.move{a:ae}(d:r.op=.move a):a1 P r η k (η a) k:=
 .aR λg b _ e=>⟨b a,by simp[ab,d,pure],e a,by simp[ab,d]⟩
theorem a1.assign{a:ae}(d:r.op=.assign a):a1 P r η k (η a) k:=
 .aR λg b _ e=>⟨b a,by simp[ab,d,pure],e a,by simp[ab,d]⟩
def b7{s}(a:bx k b aa (ax s)):Rd b.D aa s:=a
def a1.pick{s e i}(h:r.op=.pick s e i){o}(m:η s=ax (.bool o)):
  a1 P r η k (match o with|true=>η e|false=>η i) k:=by
 refine .aR λp a _ j=>?_;have b:=j s;rw[m]at b;have d:=b7 b;generalize g:a s=q at d;cases d;cases o
 .exact⟨a i,by simp[ab,h,g,asBool],j i,by simp[ab,h,g,asBool]⟩
 exact⟨a e,by simp[ab,h,g,asBool],j e,by simp[ab,h,g,asBool]⟩
def vm(e:BinOp)(d:IntKind)(a b:Int):Option (N×m Prop):=
 match e with
 |.add=>f (.int d (a+b),[a7 d (a+b)])
 |.sub=>f (.int d (a-b),[a7 d (a-b)])
 |.mul=>f (.int d (a*b),[a7 d (a*b)])
 |.quo=>f (.int d (a / b),[0<=a,0<b])
 |.rem=>f (.int d (a % b),[0<=a,0<b])
 |.eql=>f (.bool (a==b),[])
 |.neq=>f (.bool (a != b),[])
 |.lss=>f (.bool (decide (a<b)),[])
 |.leq=>f (.bool (decide (a<=b)),[])
 |.gtr=>f (.bool (decide (b<a)),[])
 |.geq=>f (.bool (decide (b<=a)),[])
 |_=>n
def vZ(d:BinOp)(a b:m UInt8):Option (N×m Prop):=
 match d with
 |.add=>f (.T (a++b),[c a+c b<=9223372036854775807])
 |.eql=>f (.bool (a==b),[])
 |.neq=>f (.bool (!(a==b)),[])
 |.lss=>f (.bool (aR a b),[])
 |.leq=>f (.bool (aR a b||a==b),[])
 |.gtr=>f (.bool (!(aR a b||a==b)),[])
 |.geq=>f (.bool (!(aR a b)),[])
 |_=>n
@[simp] def U:m Prop->Prop
 |[]=>True
 |[a]=>a
 |a::b::d=>a/\U (b::d)
def U.cons{b:Prop}{a}:U (b::a)↔b/\U a:=by cases a<;>simp
theorem r5{h}{j}(a:a7 h j):h.wrap j=j:=by cases h<;>simp only[a7,IntKind.wrap,IntKind.bits,IntKind.signed]at a⊢<;>simp<;>(try split)<;>omega
def abz{h}{d a}{s}(e:vm op h d a=f (s,cn))(b:U cn)(u:a7 h d)(r:a7 h a)(o)(bB):
  ∃m,(binOp op o (.int h d) (.int h a)).run P p=.ok m p/\Rd bB m s:=by
 cases op<;>simp[vm,e3,lF,reduceCtorEq]at e
 case add=>obtain⟨rfl,rfl⟩:=e;exact⟨_,by simp only[binOp,dZ,hv,dm,Op.intArith,r5 b];rfl,.int b⟩
 case sub=>obtain⟨rfl,rfl⟩:=e;exact⟨_,by simp only[binOp,dZ,hv,dm,Op.intArith,r5 b];rfl,.int b⟩
 case mul=>obtain⟨rfl,rfl⟩:=e;exact⟨_,by simp only[binOp,dZ,hv,dm,Op.intArith,r5 b];rfl,.int b⟩
 case quo=>
  obtain⟨rfl,rfl⟩:=e;obtain⟨i,g⟩:=b;replace g:0<a:=g;have k:d.tdiv a=d / a:=Int.tdiv_eq_ediv_of_nonneg i;have j:a7 h (d / a):=by have q:0<=d / a:=Int.ediv_nonneg i w;have t:d / a<=d:=Int.ediv_le_self _ i;cases h<;>simp only[a7]at u⊢<;>omega
  exact⟨_,by simp only[binOp,dZ,hv,dm,Op.intDiv,show a≠0 by omega,k,r5 j];rfl,.int j⟩
 case rem=>
  obtain⟨rfl,rfl⟩:=e;obtain⟨i,g⟩:=b;replace g:0<a:=g;have k:d.tmod a=d % a:=Int.tmod_eq_emod_of_nonneg i;have j:a7 h (d % a):=by have q:0<=d % a:=sq _ w;have t:d % a<a:=sk _ g;cases h<;>simp only[a7]at r⊢<;>omega
  exact⟨_,by simp only[binOp,dZ,hv,dm,Op.intDiv,show a≠0 by omega,k];rfl,.int j⟩
 all_goals (obtain⟨rfl,rfl⟩:=e;exact⟨_,by simp only[binOp,dZ,hv,dm,Op.intCmp,gt_iff_lt,ge_iff_le];rfl,.bool⟩)
def abA{F bF}{b i}{s}(a:vZ op b i=f (s,cn))(cl:U cn)(j:F.data.toList=b)(g:bF.data.toList=i)(o)(bB):
  ∃d,(binOp op o (.string F) (.string bF)).run P p=.ok d p/\Rd bB d s:=by
 subst j g;cases op<;>simp only[vZ,e3,lF,reduceCtorEq]at a
 case add=>
  obtain⟨rfl,rfl⟩:=a;have e:¬((F.size+bF.size:Nat):Int)>IntKind.i64.max:=Od;refine⟨_,by simp only[binOp,Op.stringOp,e,dm];rfl,.T D (by simpa using cl)⟩
 all_goals (obtain⟨rfl,rfl⟩:=a;exact⟨_,by simp only[binOp,Op.stringOp,ByteArray.toList_eq];rfl,.bool⟩)
def VH{h}{a bF}{s}(t:vm op h a bF=f (s,cn))(cl:U cn)(o):
  (binOp op o (.int h a) (.int h bF)).events P p #[]=#[]:=by
 cases op<;>simp[vm,e3,lF,reduceCtorEq]at t
 case quo=>
  exact Qv
 case rem=>
  exact Qv
 all_goals (simp only[binOp,dZ,hv,dm,Op.intCmp,Op.intArith];rfl)
def X0{F bF}{a i}{s}(b:vZ op a i=f (s,cn))(cl:U cn)(g:F.data.toList=a)(e:bF.data.toList=i)(o):
  (binOp op o (.string F) (.string bF)).events P p #[]=#[]:=by
 subst g e;cases op<;>simp[vZ,e3,lF,reduceCtorEq]at b
 case add=>
  obtain⟨rfl,rfl⟩:=b;have d:¬((F.size+bF.size:Nat):Int)>IntKind.i64.max:=Od;simp only[binOp,Op.stringOp,d,dm];rfl
 all_goals (simp only[binOp,Op.stringOp];rfl)
def s0:IntKind->IntKind->Bool
 |.i8,.i8|.i16,.i16|.i32,.i32|.i64,.i64|.u8,.u8|.u16,.u16|.u32,.u32|.u64,.u64=>l
 |_,_=>v
def C9{h a}(b:s0 h a=l):h=a:=by cases h<;>cases a<;>first|rfl|(cases b;done)
def xi(a:BinOp):N->N->Option (N×m Prop)
 |.int d h,.int b i=>cond (s0 d b) (vm a d h i) n
 |.T e,.T g=>vZ a e g
 |_,_=>n
def qg(op)(o)(e g)(h a)(j d)(b):(eqGuard op o e g (.int h j) (.int a d)).run P b=.ok () b:=Aa
def IB(op)(o)(d e)(b i)(a):(eqGuard op o d e (.string b) (.string i)).run P a=.ok () a:=Aa
def x3(op)(o)(e g)(h a)(j b)(d)(V):(eqGuard op o e g (.int h j) (.int a b)).events P d V=V:=Aa
def UR(op)(o)(d e)(a i)(b)(V):(eqGuard op o d e (.string a) (.string i)).events P b V=V:=Aa
theorem a1.binOp{y z:ae}(w:r.op=.binOp op o y z ty){E i s}(N:η y=ax E)(A:η z=ax i)(e:xi op E i=f (s,cn))(d:U cn):a1 P r η k (ax s) k:=by
 refine .aR λx q _ I=>?_;have a:=I y;have b:=I z;rw[N]at a;rw[A]at b;replace a:=b7 a;replace b:=b7 b;generalize t:q y=O at a;generalize u:q z=Q at b;cases a<;>cases b<;>simp[xi,reduceCtorEq]at e
 case int.int h j jm gk Dv Y8=>
  cases g:s0 h gk<;>simp[g,cond,reduceCtorEq]at e
  cases C9 g;obtain⟨D,B,C⟩:=abz (P:=P) (p:=x.a) e d jm Y8 o x.D;exact⟨D,by simp[ab,w,cJ,t,u,qg,c8,B,dY],C,by simp[ab,w,t,u,qg,x3,VH e d]⟩
 case T.T=>
  rename_i T S J K R M m F;obtain⟨D,B,C⟩:=abA (P:=P) (p:=x.a) e d J m o x.D;exact⟨D,by simp[ab,w,cJ,t,u,IB,c8,B,dY],C,by simp[ab,w,t,u,IB,UR,X0 e d J m]⟩
def zG(a:UnOp):N->Option N
 |.bool b=>match a with|.not=>f (.bool (!b))|_=>n
 |_=>n
theorem a1.unOp{op}{b:ae}(i:r.op=.unOp op o b){g s}(j:η b=ax g)(d:zG op g=f s):a1 P r η k (ax s) k:=by
 refine .aR λq e _ m=>?_;have a:=m b;rw[j]at a;replace a:=b7 a;generalize h:e b=p at a;cases a<;>simp[zG,reduceCtorEq]at d
 cases op<;>simp[reduceCtorEq,e3]at d
 subst d;exact⟨_,by simp[ab,i,h,Op.unary,cJ,dY,c8],Rd.bool,by simp[ab,i,h,Op.unary]⟩
theorem eY.get{ag}(h:eY k b z ag){i}(d:ag[u]?=f i):∃e,z[u]?=f e/\ez k b e i:=by
 induction z generalizing ag u with
 |nil=>cases ag<;>simp_all[eY]
 |cons e z g=>
  cases ag with
  |nil=>grind
  |cons m j=>
   cases u with
   |zero=>simp at d;subst d;exact⟨e,a,h.1⟩
   |succ u=>simp at d;obtain⟨p,x,o⟩:=g h.2 d;grind
theorem a1.extract{P}{r}{b:ae->y}{k}{d}{u}(p:r.op=.extract d u){ag}{e}(j:b d=.S ag)(i:ag[u]?=f e):a1 P r b k (.n e) k:=by refine .aR λw t _ o=>?_;have a:=o d;rw[j]at a;obtain⟨z,m,q⟩:=a;obtain⟨s,g,h⟩:=q.get i;refine⟨s,?_,h,?_⟩<;>simp[ab,p,m,Instr.extract,g]
def ps(a b:Nat):aO:=⟨.cell ⟨a,b,n⟩,v,v⟩
def tP(a b:Nat):aO:=⟨.cell ⟨a,b,n⟩,l,v⟩
theorem g0(i r j):(⟨i,r,n⟩:Addr).add j=⟨i,r+j,n⟩:=by unfold Addr.add;split<;>simp_all
section
def Cm{r}(a:p.cell? ⟨i,r,n⟩=f aa)(V):(load ⟨i,r,n⟩).events P p V=V.push (ps i r):=by rw[events_load,a];rfl
def I8{p}{i r}:∀h e a b,(∀d,d<h->∃m,p.cell? ⟨i,r+(e+d),n⟩=f m) ->
    ∀g∈(loadCellsFrom ⟨i,r,n⟩ e h a).events P p b,g∈b∨∃d,d<e+h/\g=ps i (r+d)
  |0,e,a,b,_=>λg j=>.inl (by simpa[loadCellsFrom]using j)
  |h+1,e,a,b,o=>λg j=>by
    obtain⟨m,k⟩:=o 0 w;simp[j6]at k;simp[loadCellsFrom,aD,g0,run_load,k,aF,Cm k]at j;rcases I8 h (e+1) (a.push m) _ (λd q=>by grind) g j with s|⟨d,q,rfl⟩
    · grind
    grind
def I7{r}{V}(g:∀a,a<j->∃e,p.cell? ⟨i,r+a,n⟩=f e):∀b∈(loadCells ⟨i,r,n⟩ j).events P p V,b∈V∨∃a,a<j/\b=ps i (r+a):=by intro b d;have:=I8 (P:=P) j 0 #[] V M b d;grind
def nj{i r}{o}:∀z a g d b,d.heap[i]?=f (.cells g o (0,0))->r+a+c z<=g.size->(∀e∈z,e.oneCell'=l) ->
    ∀j∈(storeCells ⟨i,r,n⟩ z a).events P d b,j∈b∨∃m,a<=m/\m<a+c z/\j=tP i (r+m)
  |[],_,_,_,_,_,_,_=>λj k=>.inl (by simpa[storeCells]using k)
  |e::h,a,g,d,b,C,x,p=>λj k=>by
    have bp:r+a<g.size:=M;have q:d.cell? ⟨i,r+a,n⟩=f g[r+a]:=N7;have s:d.frozen? ⟨i,r+a,n⟩=v:=by simp[World.frozen?,C]
    have t:(store (⟨i,r+a,n⟩:Addr) e).run P d=.ok () (d.setRow i (g.setIfInBounds (r+a) e)):=NV;have u:(store (⟨i,r+a,n⟩:Addr) e).events P d b=b.push (tP i (r+a)):=by rw[events_store P d b _ e _ (p e D),q];simp[s,j5,dm];rfl
    simp[storeCells,aD,g0,t,u,aF]at k;rcases nj h (a+1) (g.setIfInBounds (r+a) e) _ _ (setRow_heap _ _ _ _ _ _ C) M (λw B=>p w M) j k with y|⟨m,E,A,rfl⟩
    · grind
    grind
def dz(P:aE)(b:Sem α):Prop:=∀d a,b.events P d a=a
def dz.bind{e:Type}{A}{g:α->Sem e}(i:dz P A)(j:∀d,dz P (g d)):dz P (A >>= g):=by
  intro h a;rw[aD,i h a];cases A.run P h with
  |ok d b=>exact j d b a
  |halt k b=>rfl
def dz.pure{a:Type}{b}:dz P (Pure.pure b:Sem a):=λ_ _=>rfl
def dz.stuck{a:Type}{b}:dz P (Go.stuck b:Sem a):=λ_ _=>rfl
def dz.unsupported{a:Type}{b}:dz P (Go.unsupported b:Sem a):=λ_ _=>rfl
def dz.sizeOf{o}:dz P (sizeOf o):=λ_ _=>events_sizeOf ..
def dz.underlying{o}:dz P (underlying o):=λ_ _=>events_underlying ..
def dz.zeroValue{o}:dz P (zeroValue o):=λ_ _=>events_zeroValue ..
def dz.newObj{r}:dz P (newObj r):=λ_ _=>rfl
def dz.newRow{o}{s}:dz P (newRow o s):=.bind .newObj λ_=>.pure
def dz.ho{a e:Type}{g:a->Sem e}(h:∀b,dz P (g b)):∀d:m a,dz P (d.mapM g)
  |[]=>by rw[List.mapM_nil];exact .pure
  |b::d=>by rw[oY];exact .bind (h b) λ_=>.bind (dz.ho h d) λ_=>.pure
def dz.map{b d:Type}{e:b->d}{A}(g:dz P A):dz P (Functor.map e A):=λh a=>by rw[Sem.events_map];exact g h a
def dz.jw{a:Type}{b:α->Sem a}(e:∀d,dz P (b d))(g:Array α):dz P (g.mapM b):=by rw[w7];exact .map (.ho e _)
def dz.g8{b d:Type}{h:b->d->Sem (ForInStep d)}(i:∀e a,dz P (h e a)):∀(g:m b) a,dz P (forIn g a h)
  |[],a=>by rw[List.forIn_nil];exact .pure
  |e::g,a=>by
    rw[List.forIn_cons];refine .bind (i e a) λj=>?_;cases j with
    |done a=>exact .pure
    |yield a=>exact dz.g8 i g a
theorem dz.build{o}{parts}:dz P (Instr.build o parts):=by
  unfold Instr.build;refine .bind .zeroValue λe=>.bind .underlying λa=>?_;cases a<;>first
    |exact .stuck
    | (refine .bind (.jw (λ_=>.bind .sizeOf λ_=>.pure) _) λb=>?_
       split
       · exact .pure
       · exact .stuck)
    | (refine .bind .sizeOf λd=>?_
       split
       · exact .pure
       · exact .stuck)
theorem dz.buildSlice{o}{j}{parts}:dz P (Instr.buildSlice o j parts):=by
  unfold Instr.buildSlice;refine .bind .underlying λh=>?_;cases h<;>first
    |exact .stuck
    | (refine .bind .sizeOf λd=>?_
       dsimp only
       have a:∀elem (zero:Array Y),dz P (match Instr.fill (λi=>f (i*d,d)) (Array.map (λk=>zero[k % zero.size]!) (Array.range (j*d))) parts.toList with
          |some cells=>do
            let g<-Go.newRow elem cells
            Pure.pure (Value.slice (f g) j j)
          |_=>Go.stuck "buildSlice: a part of the wrong size"):=by
         intro elem zero;split
         · exact .bind .newRow λ_=>.pure
         · exact .stuck
       by_cases e:j*d=0
       · simp only[e,dv]
         rw[e]at a;split
         · grind
         · exact .bind .pure λb=>a _ b
       · simp only[e,dm]
         split
         · exact .bind .unsupported λ_=>.bind .zeroValue λb=>.bind .pure λb=>a _ b
         · exact .bind .zeroValue λb=>.bind .pure λb=>a _ b)
def qh{r}{L}(a:L∈b.t)(d:i∈L.ak):h4 b (ps i r):=⟨rfl,rfl,.inr (.inl ⟨⟨L,a,d⟩,λe=>by cases e⟩)⟩
def IE{r}(a:b.D i r=f aa):h4 b (ps i r):=⟨rfl,rfl,.inr (.inr ⟨rfl,aa,a⟩)⟩
theorem oa{r}{L}(d:L∈b.t)(e:i∈L.ak)(a:b.D i r=n):h4 b (tP i r):=⟨rfl,rfl,.inr (.inl ⟨⟨L,d,e⟩,λ_=>a⟩)⟩
end
structure cp where
 size:Nat
 bytes:Nat
 agg:Bool
 desc:TypeDesc
 zero:m N
 eq:m TypeDesc:=[]
def rz:TypeDesc->Y->Y->Option Bool
 |.int _,.int e a,.int d b=>if e=d then f (a==b)else n
 |.string,.string a,.string b=>f (a.toList==b.toList)
 |.bool,.bool a,.bool b=>f (a==b)
 |_,_,_=>n
def ni:m TypeDesc->m Y->m Y->Option Bool
 |[],[],[]=>f l
 |g::a,h::z,i::b=>match rz g h i with
  |some d=>match ni a z b with
   |some e=>f (d&&e)
   |none=>n
  |none=>n
 |_,_,_=>n
def vn:TypeDesc->Bool
 |.struct _|.array _ _=>l
 |_=>v
structure eJ(P:aE)(o:al)(e:cp):Prop where
 eb:P.underlying o=f e.desc
 agg:vn e.desc=e.agg
 cX:∃inf ea,P.info? o=f inf/\inf.size=e.size/\inf.bytes=e.bytes/\inf.zero=f ea/\ea.cells.toList.map k2=e.zero.map f/\(∃ah,ea=if e.agg then .agg ah else ea)/\c e.zero=e.size
 iJ:e.eq≠[]->P.eqGuardType P.depth o=v/\∀(p:ar) (z ws:m Y) (i:Bool),ni e.eq z ws=f i->(Op.equal o (.agg z.toArray) (.agg ws.toArray)).run P p=.ok i p/\∀V,(Op.equal o (.agg z.toArray) (.agg ws.toArray)).events P p V=V
def bZ:m (Nat×cp)->Nat->Option cp
 |[],_=>n
 |(d,b)::e,a=>cond (ad d a) (f b) (bZ e a)
def b2(P:aE)(d:m (Nat×cp)):Prop:=∀b a,bZ d b=f a->eJ P b a
section
variable {e:cp}
def eJ.run_underlying(a:eJ P o e):(underlying o).run P p=.ok e.desc p:=by simp[underlying,a.eb]
def eJ.ew(a:eJ P o e):(isAgg o).run P p=.ok e.agg p:=by have:=a.agg;unfold Go.isAgg;rw[cJ,a.run_underlying];cases b:e.desc<;>rw[b]at this<;>simp[vn]at this<;>simp[this]
def eJ.ba(d:eJ P o e):(sizeOf o).run P p=.ok e.size p:=by obtain⟨g,h,a,b,_⟩:=d.cX;simp[sizeOf,typeInfo,a,b]
def ug{k}{b}:∀{z:m Y}{a:m N},z.map k2=a.map f->bM k b z (a.map R.c)
 |[],[],_=>trivial
 |[],_::_,d=>by grind
 |_::_,[],d=>by grind
 |g::z,e::a,d=>by simp[mf,List.cons.injEq]at d;exact⟨Rd.fl d.1,ug d.2⟩
def eJ.hN(i:eJ P o e)(k)(b):∃a,(zeroValue o).run P p=.ok a p/\bM k b a.cells.toList (e.zero.map R.c):=by obtain⟨m,a,d,j,q,h,g,_⟩:=i.cX;exact⟨a,by simp[zeroValue,typeInfo,d,h],ug g⟩
end
def mn:y->Option (m R)
 |.n (.Q b)=>f [b]
 |.n (.agg a)=>f a
 |_=>n
theorem uU{d}{ah}(a:mn d=f ah)(e:bx k b aa d):bM k b aa.cells.toList ah:=by
 cases d with
 |n h=>
  cases h with
  |Q j=>
   cases a;have:=cA.cell e;cases aa<;>first|exact⟨e,B⟩|cases this
  |agg m=>
   cases a;obtain⟨z,rfl,g⟩:=e;simpa[Value.cells]using g
 |S i=>cases a
 |any=>cases a
def a1.newVar{P}{r}{g:ae->y}{k}{W}{ah}(q:∀b d,bc k b->(∀o,bx k b (d o) (g o))->∃h:Y,(ab d r).run P b.a=((do pure (.value (.pointer (f (<-newVar W h))))):Sem Next).run P b.a/\bM k b h.cells.toList ah/\(ab d r).events P b.a #[]=#[]):
  a1 P r g k (aI (c k) 0) (k++[.cells W ah]):=by
 intro b d e m;obtain⟨h,i,j,p⟩:=q b d e m;refine⟨.value (.pointer (f ⟨b.a.heap.size,0,n⟩)),b.bV W h.cells.toList,?_,?_,e.bV j,.bV b W _ _,by rw[p];exact .nil⟩
 .rw[i];simp[Go.newVar,newRow,a6.bV]
 refine⟨by simp,⟨.pointer (f ⟨b.a.heap.size,0,n⟩),[b.a.heap.size]⟩,b.a.heap.size,?_,a,a⟩;simp[a6.bV,<-e.len]
theorem a1.alloc{P}{ac}(aY:b2 P ac){r}{b:ae->y}{k}{W}(g:r.op=.alloc W){e}(a:bZ ac W=f e):
  a1 P r b k (aI (c k) 0) (k++[.cells W (e.zero.map R.c)]):=by refine .newVar λh m _ _=>?_;obtain⟨j,d,i⟩:=(aY W e a).hN (p:=h.a) k h;exact⟨j,by simp[ab,g,Instr.alloc,d],i,by simp[ab,g,Instr.alloc,d,Go.newVar,newRow]⟩
theorem a1.box{P}{r}{a:ae->y}{k}{W}{b}(e:r.op=.box W b){ah}(g:mn (a b)=f ah):
  a1 P r a k (aI (c k) 0) (k++[.cells W ah]):=
 .newVar λi d _ h=>⟨d b,by simp[ab,e,Instr.box],uU g (h b),by simp[ab,e,Instr.box,Go.newVar,newRow]⟩
def mV{a:Type}:Nat->m a->Option (m a)
 |0,_=>f []
 |d+1,g::b=>match mV d b with|some e=>f (g::e)|none=>n
 |_+1,[]=>n
def tJ{h:Type}:∀{b:Nat}{e d:m h},mV b e=f d->d=e.take b/\c d=b
 |0,e,d,a=>by cases a;simp
 |b+1,[],d,a=>by simp[mV]at a
 |b+1,p::g,d,a=>by
  simp[mV]at a;cases i:mV b g with
  |none=>grind
  |some o=>
   simp[i]at a;subst a;obtain⟨j,k⟩:=tJ i;grind
def c_{a:Type}:Nat->m a->Option a
 |_,[]=>n
 |0,e::_=>f e
 |d+1,_::b=>c_ d b
theorem et{b:Type}:∀{j:Nat}{d:m b}{e:b},c_ j d=f e->d[j]?=f e
 |_,[],_,a=>by simp[c_]at a
 |0,e::_,_,a=>by simpa[c_]using a
 |j+1,_::g,_,a=>by simpa using et (j:=j) (d:=g) a
def f_{a:Type}:Nat->m a->m a
 |0,d=>d
 |_+1,[]=>[]
 |e+1,_::b=>f_ e b
def ry{d:Type}:∀a(e:m d),f_ a e=e.drop a
 |0,_=>by simp[f_]
 |_+1,[]=>by simp[f_]
 |a+1,_::b=>by simp[f_,ry a b]
def hh(b:cp)(a:m R):Option E1:=
 match b.agg with
 |true=>match mV b.size a with|some e=>f (.agg e)|none=>n
 |false=>match c_ 0 a with|some d=>f (.Q d)|none=>n
def ts{e}(r:eJ P o e){ah}{aw}(D:∀m d,z[m]?=f d->b.a.cell? ⟨i,off+m,n⟩=f d)(q:bM k b z ah)(h:hh e ah=f aw):
  ∃d,(loadVar o ⟨i,off,n⟩).run P b.a=.ok d b.a/\ez k b d aw:=by
 simp[loadVar,cJ,r.ew,c8];cases t:e.agg<;>simp[hh,t]at h
 .cases g:c_ 0 ah with
  |none=>grind
  |some y=>
   simp[g]at h;subst h;obtain⟨d,A,s⟩:=q.get (et g);refine⟨d,?_,s⟩;grind[run_load]
 cases g:mV e.size ah with
 |none=>grind
 |some B=>
  simp[g]at h;subst h;obtain⟨x,u⟩:=tJ g;have j:=q.take e.size;rw[<-x]at j;have w:c (z.take e.size)=e.size:=by rw[j.cJ,u]
  have p:=run_loadCells_list (P:=P) b.a ⟨i,off,n⟩ (z.take e.size) (λm d C=>by grind[g0]);rw[w]at p;refine⟨.agg (z.take e.size).toArray,?_,z.take e.size,a,j⟩;simp[r.ba,p]
def o8{e}(s:eJ P o e)(t:∀d,d<j->∃k,p.cell? ⟨i,off+d,n⟩=f k)(h:(if e.agg then e.size else 1)<=j):
  ∀g∈(loadVar o ⟨i,off,n⟩).events P p #[],∃d,d<j/\g=ps i (off+d):=by
 intro g b;simp only[loadVar,aD,s.ew,aF,events_isAgg]at b;cases q:e.agg
 .rw[q]at h b;obtain⟨k,r⟩:=t 0 M;simp[j6]at r;simp only[j5,dm,Cm r]at b;rcases Array.mem_push.1 b with u|rfl
  .grind
  exact⟨0,by grind,a⟩
 rw[q]at h b;simp[dv]at h;simp[dv,aD,s.ba,aF,events_sizeOf]at b;have key:∀g∈(loadCells ⟨i,off,n⟩ e.size).events P p #[],∃d,d<j/\g=ps i (off+d):=by
  intro g b;rcases I7 (P:=P) (λd x=>t d w) g b with u|⟨d,x,rfl⟩
  .grind
  grind
 apply key;generalize(loadCells ⟨i,off,n⟩ e.size).run P p=y at b;cases y with
 |ok k m=>simpa using b
 |halt z m=>simpa using b
theorem r4{e}{ah}{g}(a:hh e ah=f g):(if e.agg then e.size else 1)<=c ah:=by
 unfold hh at a;cases b:e.agg<;>rw[b]at a
 .cases ah with
  |nil=>simp[c_]at a
  |cons h ah=>simp
 simp only at a;cases d:mV e.size ah with
 |none=>grind
 |some k=>
  obtain⟨i,j⟩:=tJ d;grind
theorem a1.hi{ac}(aY:b2 P ac){w:ae}(C:r.op=.load o w){ah}{e}{aw}(O:η w=aI d off)(aJ:k[d]?=f (.cells W ah))(p:bZ ac o=f e)(F:hh e (f_ off ah)=f aw):a1 P r η k (.n aw) k:=by
 refine .dt λb x q s=>?_
 have m:=s w;rw[O]at m;obtain⟨_,L,i,J,y,I⟩:=m;obtain⟨u,z,rfl,E,A,_⟩:=q.box d _ L aJ J;simp at y;subst y;rw[ry]at F;obtain⟨K,B,N⟩:=ts (b:=b) (k:=k) (P:=P) (aY o e p) (i:=u) (off:=off) (z:=z.drop off) (ah:=ah.drop off) (aw:=aw) (λt K g=>by
  simp[aH,E]
  grind) (A.drop off) F
 refine⟨K,by simp[ab,C,I,Instr.loadAt,Instr.sureAddr,B],N,λh a=>?_⟩;have M:h∈(loadVar o ⟨u,off,n⟩).events P b.a #[]:=by
  have aw:ab x r=(do pure (.value (<-loadVar o ⟨u,off,n⟩))):=by simp[ab,C,I,Instr.loadAt,Instr.sureAddr]
  rw[aw]at a;simpa[B]using a
 have Q:c (z.drop off)=c (ah.drop off):=(A.drop off).cJ;obtain⟨t,g,rfl⟩:=o8 (aY o e p) (j:=c (z.drop off)) (λt g=>by refine⟨(z.drop off)[t],?_⟩;simp only[aH,E];simp at g⊢<;>omega) (by grind[r4]) h M;exact qh (b_ J) D
theorem a1.hj{ac}(aY:b2 P ac){B:ae}(I:r.op=.load o B){ah}{e}{aw}(W:η B=ax (.R ah))(w:bZ ac o=f e)(O:hh e (ah.map R.c)=f aw):a1 P r η k (.n aw) k:=by
 refine .dt λb x u C=>?_;have s:=C B;rw[W]at s;have t:=b7 s;generalize F:x B=X at t;cases t;rename_i i off A p J;have V:∀j h,(∀d y,h[d]?=f y->Rd b.D (A (j+d)) y)->bM k b ((aB (c h)).map λd=>A (j+d)) (h.map R.c):=by
  intro j h;induction h generalizing j with
  |nil=>intro _;trivial
  |cons S h D=>
   intro N;rw[fh,wS];refine⟨N 0 S a,?_⟩;have:=D (j+1) (λd y g=>by have:=N (d+1) y M;grind);grind[Function.comp_def]
 obtain⟨Q,K,U⟩:=ts (b:=b) (k:=k) (P:=P) (aY o e w) (i:=i) (off:=off) (z:=(aB (c ah)).map λd=>A (0+d)) (ah:=ah.map R.c) (aw:=aw) (λd Q g=>by
  simp[m',cX]at g;by_cases E:d<c ah
  .simp[E]at g;subst g;exact u.mem _ _ _ (p d ah[d] (bH E))
  grind) (V 0 ah M) O
 refine⟨Q,by simp[ab,I,F,Instr.loadAt,Instr.sureAddr,K],U,λq m=>?_⟩;have T:q∈(loadVar o ⟨i,off,n⟩).events P b.a #[]:=by
  have aw:ab x r=(do pure (.value (<-loadVar o ⟨i,off,n⟩))):=by simp[ab,I,F,Instr.loadAt,Instr.sureAddr]
  rw[aw]at m;simpa[K]using m
 obtain⟨d,g,rfl⟩:=o8 (aY o e w) (j:=c ah) (λd g=>⟨A d,u.mem _ _ _ (p d ah[d] (bH g))⟩) (by have:=r4 O;grind) q T;exact IE (p d ah[d] (bH g))
def iZ{d:Type}:Nat->m d->m d->Option (m d)
 |0,[],i=>f i
 |0,j::b,_::a=>match iZ 0 b a with|some e=>f (j::e)|none=>n
 |h+1,b,g::a=>match iZ h b a with|some e=>f (g::e)|none=>n
 |_,_,[]=>n
def Ek{h:Type}:∀{a:Nat}{new g e:m h},iZ a new g=f e->a+c new<=c g/\e=g.take a++new++g.drop (a+c new)
 |0,[],g,e,t=>by cases g<;>cases t<;>simp
 |0,o::b,k::d,e,t=>by
  simp[iZ]at t;cases x:iZ 0 b d with
  |none=>grind
  |some p=>
   exact O9
 |0,o::b,[],e,t=>by simp[iZ]at t
 |j+1,b,k::d,e,t=>by
  simp[iZ]at t;cases x:iZ j b d with
  |none=>grind
  |some p=>
   exact O9
 |j+1,b,[],e,t=>by simp[iZ]at t
def bM.fc{new}{ah a g}(h:AM.iZ off a ah=f g)(d:bM k b z ah)(e:bM k b new a):
  off+c new<=c z/\bM k b (z.take off++new++z.drop (off+c new)) g:=by obtain⟨k1,rfl⟩:=Ek h;rw[e.cJ,d.cJ];refine⟨k1,((d.take off).append e).append (by have:=d.drop (off+c a);exact this)⟩
theorem a1.store{ac}(aY:b2 P ac){x h:ae}(I:r.op=.store o x h){ah new i}{e}(O:η x=aI d off)(aJ:k[d]?=f (.cells W ah))(q:bZ ac o=f e)(y:mn (η h)=f new)(s:c new=e.size)(N:iZ off new ah=f i):
  a1 P r η k .any (k.set d (.cells W i)):=by
 intro w g p t;have m:=t x;rw[O]at m;obtain⟨_,L,Y,B,F,K⟩:=m;obtain⟨u,z,rfl,J,T,R⟩:=p.box d _ L aJ B;simp at F;subst F;have j:=uU y (t h);obtain⟨k1,V⟩:=bM.fc N T j;obtain⟨w1,w2⟩:=p.write aJ B rfl V;refine⟨.skip,_,?_,a,w1,w2,?_⟩
 rotate_left
 .intro IC b;have A:(g h).cells.size=e.size:=by rw[<-s,<-j.cJ,m9]
  have Q:ab g r=(do storeVar o ⟨u,off,n⟩ (g h);pure .skip):=by simp[ab,I,K,Instr.storeAt,Instr.sureAddr]
  rw[Q]at b;have S:IC∈(storeCells ⟨u,off,n⟩ (g h).cells.toList).events P w.a #[]:=by
   simp[storeVar,aD,(aY o e q).ba,A,aF,events_sizeOf,dZ,hv,dm,cJ,c8,Sem.events_pure]at b;generalize(storeCells ⟨u,off,n⟩ (g h).cells.toList).run P w.a=U at b;cases U with
   |ok aa C=>simpa using b
   |halt x C=>simpa using b
  rcases nj (g h).cells.toList 0 z.toArray w.a #[] J M j.cell IC S with X|⟨Z,_,_,rfl⟩
  .grind
  exact oa (b_ B) D (R _)
 have E:=run_storeCells_at P u off W (g h).cells.toList 0 z.toArray w.a J M (j.cell);have A:(g h).cells.size=e.size:=by rw[<-s,<-j.cJ,m9]
 simp[j6]at E;simp[ab,I,K,Instr.storeAt,Instr.sureAddr,storeVar,(aY o e q).ba,A,E]
def lc(d:m (Nat×cp))(i:al)(g:Nat):Option (Nat×cp):=
 match bZ d i with
 |some h=>match h.desc with
  |.struct b=>match c_ g b.toList with
   |some a=>match bZ d a.type with
    |some e=>cond (ad e.size 0) n (f (a.offset,e))
    |none=>n
   |none=>n
  |_=>n
 |none=>n
def CI{ac}(aY:b2 P ac){j}{u}(d:lc ac o j=f (off,u)):
  ∃g h b,bZ ac o=f g/\g.desc=.struct h/\h[j]?=f b/\b.offset=off/\bZ ac b.type=f u/\u.size≠0/\eJ P o g/\eJ P b.type u:=by
 unfold lc at d;split at d
 .rename_i g bp;split at d
  .rename_i h i;split at d
   .rename_i b e;split at d
    .rename_i k s;cases m:ad k.size 0<;>simp[m]at d
     obtain⟨rfl,rfl⟩:=d;refine⟨g,h,b,bp,i,by simpa using et e,a,s,?_,aY _ _ bp,aY _ _ s⟩;intro p;simp_all
    grind
   grind
  grind
 grind
def zb{ac}(aY:b2 P ac){a}{u}(k:lc ac o a=f (off,u))(i r)(p):
  (Instr.fieldAt o (.pointer (f ⟨i,r,n⟩)) a).run P p=.ok (.pointer (f ⟨i,r+off,n⟩)) p:=by obtain⟨q,w,h,s,g,m,j,t,b,e,d⟩:=CI aY k;simp[Instr.fieldAt,e.run_underlying,g,m,Instr.sureAddr,fieldPlace,d.ba,b,g0,j]
def x4{ac}(aY:b2 P ac){a}{u}(k:lc ac o a=f (off,u))(i r)(p)(V):
  (Instr.fieldAt o (.pointer (f ⟨i,r,n⟩)) a).events P p V=V:=by obtain⟨m,w,h,s,g,j,q,t,b,e,d⟩:=CI aY k;simp[Instr.fieldAt,e.run_underlying,g,j,Instr.sureAddr,fieldPlace,d.ba,b]
def a1.g3{ac}(aY:b2 P ac){i:ae}{q}(s:r.op=.fieldAddr o i q){h}{u}(y:η i=aI d off)(m:lc ac o q=f (h,u)):a1 P r η k (aI d (off+h)) k:=by refine .aR λA z x g=>?_;have b:=g i;rw[y]at b;obtain⟨e,L,j,w,t,p⟩:=b;exact⟨.pointer (f ⟨j,off+h,n⟩),by simp[ab,s,p,zb aY m],⟨e,L,j,w,t,a⟩,by simp[ab,s,p,x4 aY m]⟩
theorem a1.g4{ac}(aY:b2 P ac){d:ae}{q}(s:r.op=.fieldAddr o d q){ah}{h}{u}(A:η d=ax (.R ah))(p:lc ac o q=f (h,u)):a1 P r η k (ax (.R (f_ h ah))) k:=by refine .aR λC i y g=>?_;have a:=g d;rw[A]at a;have b:=b7 a;generalize j:i d=B at b;cases b;rename_i m r x z t;refine⟨.pointer (f ⟨m,r+h,n⟩),by simp[ab,s,j,zb aY p],?_,by simp[ab,s,j,x4 aY p]⟩;rw[ry];refine Rd.R m (r+h) (λu=>x (h+u)) (λu w e=>M) (λu w e=>?_);grind
def R0{e}(j:eJ P o e){ah}(q:bM k b z ah){i}(d:hh e (f_ off ah)=f i)(p):
  ∃g,(part o z.toArray off).run P p=.ok g p/\ez k b g i/\∀a,(part o z.toArray off).events P p a=a:=by
 simp[part,cJ,j.ew,c8,aD,aF,events_isAgg];rw[ry]at d;cases t:e.agg<;>simp[hh,t]at d
 .cases s:c_ 0 (ah.drop off)with
  |none=>grind
  |some w=>
   simp[s]at d;subst d;obtain⟨g,m,r⟩:=(q.drop off).get (et s);simp at m;refine⟨g,?_,r,λa=>?_⟩<;>simp[m]
 cases s:mV e.size (ah.drop off)with
 |none=>grind
 |some y=>
  simp[s]at d;subst d;obtain⟨u,x⟩:=tJ s;have h:=(q.drop off).take e.size;rw[<-u]at h;refine⟨.agg (z.toArray.extract off (off+e.size)),by simp[j.ba],⟨(z.drop off).take e.size,?_,h⟩,λa=>by simp⟩;simp
theorem a1.field{P}{ac}(aY:b2 P ac){r}{d:ae->y}{k}{o}{g}{j}(p:r.op=.field o g j){ah}{h}{u}{i}(M:d g=.n (.agg ah))(F:lc ac o j=f (h,u))(J:hh u (f_ h ah)=f i):a1 P r d k (.n i) k:=by refine .aR λK O E e=>?_;have a:=e g;rw[M]at a;obtain⟨z,q,A⟩:=a;obtain⟨Q,D,C,a,b,t,s,S,R,m,I⟩:=CI aY F;obtain⟨N,B,w,x⟩:=R0 I A J K.a;exact⟨N,by simp[ab,p,q,Instr.field,m.run_underlying,b,t,asAgg,s,B],w,by simp[ab,p,q,Instr.field,m.run_underlying,b,t,asAgg,s,x]⟩
theorem a1.ht{b:ae}(i:r.op=.nilCheck b)(m:η b=aI d off):a1 P r η k (aI d off) k:=by refine .aR λu g o e=>?_;have a:=e b;rw[m]at a;have j:=a;obtain⟨p,L,q,t,s,h⟩:=a;exact⟨g b,by simp[ab,i,h],j,by simp[ab,i,h]⟩
theorem a1.hx{d:ae}(i:r.op=.nilCheck d){ah}(j:η d=ax (.R ah)):a1 P r η k (ax (.R ah)) k:=by refine .aR λp g m e=>?_;have a:=e d;rw[j]at a;have b:=b7 a;generalize h:g d=o at b;cases b;exact⟨_,by simp[ab,i,h];rfl,by grind,by simp[ab,i,h]⟩
def YO(new):∀d a(b:Array Y),a+d+c new<=b.size ->
  ((new.zipIdx d).foldl (λb (g:Y×Nat)=>b.setIfInBounds (a+g.2) g.1) b).toList=b.toList.take (a+d)++new++b.toList.drop (a+d+c new):=by
 induction new with
 |nil=>simp
 |cons h z e=>
  intro d a b i;simp[List.zipIdx_cons,iI];rw[e (d+1) a _ M];have:=list_seg_step b.toList (a+d) h z M;simpa[Array.toList_setIfInBounds,Nat.add_assoc]using this
def rB(place:Nat->Option (Nat×Nat)):m (Nat×m R)->m R->Option (m R)
 |[],a=>f a
 |(e,new)::b,a=>match place e with
  |some (d,size)=>match ad (c new) size with
   |true=>match iZ d new a with
    |some g=>rB place b g
    |none=>n
   |false=>n
  |none=>n
def yb{k}{b}{place vM:Nat->Option (Nat×Nat)}(A:∀x g,place x=f g->vM x=f g):∀{parts:m (Nat×m R)}{zI:m (Nat×Y)}{ah a':m R}{z:Array Y},
  rB place parts ah=f a'->zI.map (·.1)=parts.map (·.1)->(∀(s:Nat) g o,parts[s]?=f g->zI[s]?=f o->bM k b o.2.cells.toList g.2)->bM k b z.toList ah ->
  ∃r,Instr.fill vM z zI=f r/\bM k b r.toList a'
 |[],[],ah,a',z,e,_,_,p=>by cases e;exact⟨z,a,p⟩
 |[],_::_,ah,a',z,e,j,_,p=>by grind
 |_::_,[],ah,a',z,e,j,_,p=>by grind
 |(x,new)::i,(w,t)::h,ah,a',z,e,j,q,p=>by
  simp[mf,List.cons.injEq]at j;obtain⟨rfl,j⟩:=j;simp[rB]at e;cases y:place w with
  |none=>grind
  |some g=>
   obtain⟨d,size⟩:=g;simp[y]at e;cases C:ad (c new) size with
   |false=>grind
   |true=>
    simp[C]at e;cases D:iZ d new ah with
    |none=>grind
    |some o=>
     simp[D]at e;have u:=q 0 (w,new) (w,t) a a;simp only at u;have Q:=u.cJ;have J:c new=size:=dn C;obtain⟨k1,O⟩:=bM.fc D p u;have N:=YO t.cells.toList 0 d z M;have F:t.cells.size=size:=M;have K:d+size<=z.size:=M;obtain⟨r,I,B⟩:=yb (k:=k) (b:=b) A (parts:=i) (zI:=h) (ah:=o) (a':=a')
      (z:=t.cells.zipIdx.foldl (λah (E:Y×Nat)=>ah.setIfInBounds (d+E.2) E.1) z) e j (λs g o I B=>q (s+1) g o M M) (by grind[Array.toList_zipIdx])
     refine⟨r,?_,B⟩;simp[Instr.fill,A _ _ y,F,dZ,hv,nY,Bool.false_or,bw];grind
def th(b:m (Nat×cp)):m Field->Option (m (Nat×Nat))
 |[]=>f []
 |d::a=>match bZ b d.type with
  |some e=>match th b a with
   |some g=>f ((d.offset,e.size)::g)
   |none=>n
  |none=>n
def Lw{P}{ac}(aY:b2 P ac):∀{b:m Field}{e:m (Nat×Nat)},th ac b=f e->b.mapM (λd=>(P.info? d.type).map λk=>(d.offset,k.size))=f e
 |[],e,a=>by cases a;simp
 |d::b,e,a=>by
  simp[th]at a;cases h:bZ ac d.type with
  |none=>grind
  |some p=>
   cases g:th ac b with
   |none=>grind
   |some q=>
    simp[h,g]at a;subst a;obtain⟨o,r,j,i,_⟩:=(aY _ _ h).cX;simp[oY,j,i,Lw aY g]
def pq(a:ae->y):m (Nat×ae)->Option (m (Nat×m R))
 |[]=>f []
 |(d,h)::g=>match mn (a h)with
  |some b=>match pq a g with
   |some e=>f ((d,b)::e)
   |none=>n
  |none=>n
def yZ{k}{b}{d:ae->Y}{a:ae->y}(t:∀s,bx k b (d s) (a s)):∀{j:m (Nat×ae)}{g:m (Nat×m R)},pq a j=f g ->
  (j.map λ(i,h)=>(i,d h)).map (·.1)=g.map (·.1)/\∀(p:Nat) q r,g[p]?=f q->(j.map λ(i,h)=>(i,d h))[p]?=f r->bM k b r.2.cells.toList q.2
 |[],g,e=>by cases e;simp
 |(i,h)::z,g,e=>by
  simp[pq]at e;cases u:mn (a h)with
  |none=>grind
  |some w=>
   cases o:pq a z with
   |none=>grind
   |some x=>
    simp[u,o]at e;subst e;obtain⟨B,A⟩:=yZ t o;grind[uU]
def xm(g:m (Nat×cp))(e:ae->y)(j:al)(parts:m (Nat×ae)):Option (m R):=
 match bZ g j with
 |some h=>match h.desc with
  |.struct a=>match th g a.toList with
   |some b=>match pq e parts with
    |some d=>rB (λi=>c_ i b) d (h.zero.map R.c)
    |none=>n
   |none=>n
  |_=>n
 |none=>n
theorem a1.build{P}{ac}(aY:b2 P ac){r}{d:ae->y}{k}{o}{parts}(z:r.op=.build o parts){ah}(e:xm ac d o parts.toList=f ah):a1 P r d k (.n (.agg ah)) k:=by
 refine .aR λb s B m=>?_;unfold xm at e;cases a:bZ ac o with
 |none=>grind
 |some i=>
  simp[a]at e;cases x:i.desc with
  |struct j=>
   simp[x]at e;cases w:th ac j.toList with
   |none=>grind
   |some q=>
    simp[w]at e;cases u:pq d parts.toList with
    |none=>grind
    |some J=>
     simp[u]at e;obtain⟨S,V,I,T,N,E,K,U,Q⟩:=(aY o i a).cX;obtain⟨D,p⟩:=yZ (k:=k) (b:=b) m u;obtain⟨g,M,F⟩:=yb (k:=k) (b:=b) (vM:=λA=>q.toArray[A]?) (λA R C=>by grind[et]) e D p (ug K);have h:P.built o (parts.map λ(i,O)=>(i,s O)).toList=f g:=by unfold Program.built;have t:=(aY o i a).eb;rw[x]at t;simp[I,t,E,Lw aY w];simpa using M
     refine⟨.agg g,?_,⟨g.toList,by simp,F⟩,?_⟩
     .simp only[ab,z,cJ,run_build b.a o _ g h,c8,dY]
     simp[ab,z,aD,run_build b.a o _ g h,aF,Sem.events_pure];exact dz.build b.a #[]
  |_=>grind
theorem Zp{h}(a:e<j)(d:u<h):e*h+u<j*h:=by have b:(e+1)*h<=j*h:=g5 h w;grind
theorem Zo{h}(a:u<h):(e*h+u) / h=e:=by grind[Nat.mul_comm,Nat.mul_add_div,Nat.div_eq_of_lt]
theorem Zq{h}(a:u<h):(e*h+u) % h=u:=by rw[wZ,Nat.mul_add_mod,Nat.mod_eq_of_lt a]
def eX.nil{h}:eX bB h 0 V []:=⟨by simp,by omega,by omega⟩
def cg(b:Nat)(d e:Nat->m N):Nat->m N:=λa=>if a<b then d a else e (a-b)
def eX.append{h}{b:Nat->m N}{i}(g:eX bB h j V z)(p:eX bB h A b i):eX bB h (j+A) (cg j V b) (z++i):=by
 refine⟨by simp[g.len,p.len,jE],λe r=>?_,λe r k s a=>?_⟩
 .simp only[cg];split
  .rename_i o;exact g.bF e o
  exact p.bF _ w
 simp[cg]at a;split at a
 .rename_i o;obtain⟨t,q,d⟩:=g.rd e o k s a;grind
 rename_i x;obtain⟨t,q,d⟩:=p.rd _ w k s a;refine⟨t,?_,d⟩;have u:e*h+k=c z+((e-j)*h+k):=by rw[g.len,<-Nat.add_assoc,<-jE,AO w]
 grind
def eX.cell{bB}{h j}{d:Nat->m N}{z}(i:eX bB h j d z):∀g∈z,g.oneCell'=l:=by intro g p;obtain⟨a,q,rfl⟩:=g4 p;rw[i.len]at q;have o:0<h:=M;have e:a / h<j:=si M;have s:a % h<h:=pY _ o;have t:=i.bF _ e;obtain⟨g,b,k⟩:=i.rd (a / h) e (a % h) ((d (a / h))[a % h]'w) (bH w);have r:a / h*h+a % h=a:=ur a h;rw[r]at b;rw[bH M]at b;simp at b;rw[b];have:=Rd.cell k;cases g<;>simp_all[dQ,Value.oneCell']
def Rd.bZ{o}{h}(D:Rd bB aa (.B o h j V)):
  ∃k b z,aa=.slice k j b/\j<=b/\b<=9223372036854775807/\(o=l->b=j)/\eX bB h j V z/\∀e u,z[e]?=f u->∃m d,k=f ⟨m,d,n⟩/\bB m (d+e)=f u:=by
 cases D with
 |@B k _ b _ _ _ m d A x r t i q s F=>
  refine⟨k,b,(aB (j*h)).map λe=>A (e / h) (e % h),a,x,r,t,⟨by simp,i,?_⟩,?_⟩
  .grind [Zp,Zo,Zq]
  intro e u p;simp[m']at p;by_cases y:e<j*h
  .simp[y]at p;subst p;have C:0<h:=M;have g:e / h<j:=si M;have E:e % h<h:=pY _ C;have I:=i _ g;have:=s (e / h) g (e % h) ((V (e / h))[e % h]'w) (bH w);refine⟨m,d,q (Nat.lt_of_le_of_lt (gZ _) g),?_⟩;grind[Nat.div_add_mod']
  grind
def Rd.er{h}(k:eX bB h j V z){x}{cap}{o}(u:0<j->x=f ⟨i,off,n⟩)(t:j<=cap)(q:cap<=9223372036854775807)(w:o=l->cap=j)(y:∀r s,z[r]?=f s->bB i (off+r)=f s):Rd bB (.slice x j cap) (.B o h j V):=by
 refine .B i off (λd e=>(z[d*h+e]?).getD J) t q w k.bF u (λd a e g b=>?_) (λd a e g b=>?_)
 .obtain⟨aa,m,p⟩:=k.rd d a e g b;grind
 obtain⟨aa,m,p⟩:=k.rd d a e g b;grind
def oA(A:bc k b){o}{h}(u:Rd b.D aa (.B o h j V)):
  ∃z,eX b.D h j V z/\(Builtin.firstCells h j aa).run P b.a=.ok z.toArray b.a/\Builtin.lenOf aa=pure j:=by
 obtain⟨r,m,z,rfl,B,E,D,q,p⟩:=u.bZ;refine⟨z,q,?_,a⟩;have w:c z=j*h:=q.len;cases r with
 |none=>
  have:z=[]:=by
   cases z with
   |nil=>rfl
   |cons i C=>obtain⟨s,d,g,_⟩:=p 0 i rfl;cases g
  subst this;rfl
 |some e=>
  simp[Builtin.firstCells];rw[<-w];refine run_loadCells_list b.a e z λx i t=>?_;obtain⟨s,d,g,y⟩:=p x i t;cases g;rw[g0];exact A.mem _ _ _ y
def a1.jf{ac}(aY:b2 P ac){w y:ae}(t:r.op=.index o w y){d}{u}{h}{e}(bp:bZ ac o=f e)(aj:e.desc=.string)(I:η w=ax (.T d))(F:η y=ax (.int h u))(J6:u=A)(D:A<c d):a1 P r η k (ax (.int .u8 (d[A]).toNat)) k:=by
 refine .aR λb s z q=>?_;have g:=q w;have j:=q y;rw[I]at g;rw[F]at j;replace g:=b7 g;replace j:=b7 j;generalize x:s w=J at g;generalize O:s y=K at j;cases g with
 |@T a _ E B=>
 cases j;subst E;have C:a[A]?=f (a.data.toList[A]):=by have m:A<a.size:=ds;rw[getElem?_pos a A m];congr 1
 refine⟨.int .u8 (a.data.toList[A]).toNat,?_,Rd.int ?_,?_⟩
 rotate_left 2
 .exact Q6
 .exact Q6
 have:=(a.data.toList[A]).toNat_lt;exact mX
def a1.indexAddr{ac}(aY:b2 P ac){t x:ae}(T:r.op=.indexAddr o t x){e a4}(E:bZ ac o=f e)(R:e.desc=.slice W)(Q:bZ ac W=f a4){eO}{u}{h}(y:∀q O,bx k q O (η t)->Rd q.D O (.B eO a4.size j V))(N:η x=ax (.int h u))(F:u=A)(B:A<j):
  a1 P r η k (ax (.R (V A))) k:=by
 refine .aR λq s X i=>?_;have d:=y q _ (i t);have a:=i x;rw[N]at a;replace a:=b7 a;generalize af:s t=ah at d;generalize ag:s x=ai at a;cases a;cases d with
 |@B aj _ K _ _ _ J b S al U Z Y D g m=>
 have aa:0<j:=w;have M:=(aY o e E).run_underlying (p:=q.a);rw[R]at M;refine⟨.pointer (f ⟨J,b+A*a4.size,n⟩),?_,Rd.R J (b+A*a4.size) (S A) (λI z C=>g A B I z C) (λI z C=>m A B I z C),?_⟩<;>
 simp[ab,T,af,ag,Instr.indexAt,asIntOf,M,F,D aa,(aY W a4 Q).ba,g0,B]
def a1.jj{ac}(aY:b2 P ac){g:ae}(u:r.op=.call {callee:=.builtin .len,args:=#[g],argTypes:=dr})(A:dr[0]?=f o){e}(b:bZ ac o=f e)(t:e.desc=.slice W){eO}{h}(B:∀a q,bx k a q (η g)->Rd a.D q (.B eO h j V)):a1 P r η k (ax (.int .i64 j)) k:=by
 refine .aR λa C x d=>?_;obtain⟨D,i,z,y,E,w,_⟩:=(B a _ (d g)).bZ;have m:=(aY o e b).run_underlying (p:=a.a);rw[t]at m;have s:dr[0]?=f o:=A;refine⟨.int .i64 j,?_,Rd.int mX,?_⟩<;>
 simp[ab,u,resolve,invoke,builtin,Builtin.len_,y,m,goInt,s]
theorem a1.jo{ac}(aY:b2 P ac){b:ae}(w:r.op=.call {callee:=.builtin .len,args:=#[b],argTypes:=dr})(A:dr[0]?=f o){e}(g:bZ ac o=f e)(u:e.desc=.string){d}(B:η b=ax (.T d)):a1 P r η k (ax (.int .i64 (c d))) k:=by
 refine .aR λC j x h=>?_;have a:=h b;rw[B]at a;replace a:=b7 a;generalize q:j b=D at a;cases a with
 |@T i _ z y=>
 have m:=(aY o e g).run_underlying (p:=C.a);rw[u]at m;have s:dr[0]?=f o:=A;have t:i.size=c d:=by rw[<-z];simp
 refine⟨.int .i64 (c d),?_,Rd.int mX,?_⟩<;>
 simp[ab,w,resolve,invoke,builtin,Builtin.len_,q,m,goInt,s,t]
def a6.newRow(a:a6)(e:al)(z:m Y):a6:=
 {t:=a.t,D:=λb d=>if b=a.a.heap.size then z[d]? else a.D b d,a:=a.a.alloc (.cells z.toArray e),own:=a.own}
def bc.newRow{k}{b}(h:bc k b)(W)(z):bc k (b.newRow W z)/\cN k b k (b.newRow W z):=by
 refine h.cW D (λg d=>iV _ _ d) (λg d j=>by grind) (λg d j m e=>?_) a a a;by_cases i:g=b.a.heap.size
 .simp_all
 simp[i,dm]at e;have:=h.block e;omega
def KT(d:a6)(W)(z):∀a b,z[a]?=f b->(d.newRow W z).D d.a.heap.size (0+a)=f b:=by intro a b e;simpa[a6.newRow]using e
def h3:m R->Option (m N)
 |[]=>f []
 |.c e::d=>match h3 d with|some b=>f (e::b)|none=>n
 |.x _ g h a::d=>match h3 d with|some b=>f (.B v g h a::b)|none=>n
 |_::_=>n
def rv{k}{b}:∀{i:m R}{g:m N}{z:m Y},h3 i=f g->bM k b z i->bM k b z (g.map R.c)
 |[],g,z,a,e=>by cases a;exact e
 |_::_,_,[],_,e=>e.elim
 |.c r::d,g,j::z,a,e=>by
  simp[h3]at a;cases h:h3 d with
  |none=>grind
  |some q=>simp[h]at a;subst a;exact⟨e.1,rv h e.2⟩
 |.x o s t p::d,g,j::z,a,e=>by
  simp[h3]at a;cases h:h3 d with
  |none=>grind
  |some q=>simp[h]at a;subst a;exact⟨e.1.1,rv h e.2⟩
 |.ptr o u::d,g,j::z,a,e=>by simp[h3]at a
 |.aM o::d,g,j::z,a,e=>by simp[h3]at a
 |.O o w::d,g,j::z,a,e=>by simp[h3]at a
 |.any::d,g,j::z,a,e=>by simp[h3]at a
def rr{a:Type}(b:Nat):Nat->m a->Option (m (m a))
 |0,[]=>f []
 |0,_::_=>n
 |g+1,d=>match mV b d with
  |some e=>match rr b g (f_ b d)with
   |some h=>f (e::h)
   |none=>n
  |none=>n
def bM.eX:∀{z:m Y}{a:m N},bM k b z (a.map R.c)->∀(u:Nat)d,a[u]?=f d->∃e,z[u]?=f e/\Rd b.D e d:=by intro z a i u d j;obtain⟨e,g,h⟩:=i.get (u:=u) (x:=.c d) M;exact⟨e,g,h⟩
def BQ{bB}{h}:∀{j:Nat}{b:m N}{d:m (m N)}{z:m Y},rr h j b=f d->c z=c b->(∀(k:Nat)e,b[k]?=f e->∃p,z[k]?=f p/\Rd bB p e)->c d=j/\eX bB h j (λi=>d.getD i []) z
 |0,[],d,z,g,o,r=>by cases g;simp at o;subst o;exact⟨a,.nil⟩
 |0,_::_,d,z,g,o,r=>by cases g
 |j+1,b,d,z,g,o,r=>by
  simp[rr]at g;cases u:mV h b with
  |none=>grind
  |some e=>
   simp[u]at g;cases q:rr h j (f_ h b)with
   |none=>grind
   |some w=>
    simp[q]at g;subst g;obtain⟨D,t⟩:=tJ u;rw[ry]at q;obtain⟨E,B⟩:=BQ (z:=z.drop h) q M (λk e C=>by
     obtain⟨p,D,t⟩:=r (h+k) e M
     exact⟨p,by grind,t⟩)
    refine⟨by grind,?_⟩;have A:h<=c b:=M;have s:eX bB h 1 (λ_=>e) (z.take h):=by refine⟨by grind,by grind,λi y k F C=>?_⟩;grind
    have:=s.append B;rw[Nat.add_comm 1 j]at this;have x:cg 1 (λ_=>e) (λi=>w.getD i [])=λi=>(e::w).getD i []:=by funext i;cases i<;>simp[cg]
    rw[x]at this;simpa using this
def rO(i:m (Nat×cp))(h:ae->y)(q:al)(e:Nat)(parts:m (Nat×ae)):Option (Nat×m (m N)):=
 match bZ i q with
 |some k=>match k.desc with
  |.slice j=>match bZ i j with
   |some a=>match ad a.size 0 with
    |true=>n
    |false=>match ay (e*a.size) 16777216 with
     |true=>match pq h parts with
      |some g=>match rB (λo=>f (o*a.size,a.size)) g (aU (e*a.size) R.any)with
       |some b=>match h3 b with
        |some p=>match rr a.size e p with
         |some d=>f (a.size,d)
         |none=>n
        |none=>n
       |none=>n
      |none=>n
     |false=>n
   |none=>n
  |_=>n
 |none=>n
theorem a1.buildSlice{P}{ac}(aY:b2 P ac){r}{A:ae->y}{k}{o}{j}{parts}(t:r.op=.buildSlice o j parts){h}{V}(e:rO ac A o j parts.toList=f (h,V)):a1 P r A k (ax (.B l h j λx=>V.getD x [])) k:=by
 intro b s Q T;unfold rO at e;cases C:bZ ac o with
 |none=>grind
 |some x=>
  simp[C]at e;cases ai:x.desc with
  |slice u=>
   simp[ai]at e;cases F:bZ ac u with
   |none=>grind
   |some d=>
    simp[F]at e;cases U:ad d.size 0 with
    |true=>grind
    |false=>
     simp[U]at e;cases G:ay (j*d.size) 16777216 with
     |false=>grind
     |true=>
      simp[G]at e;cases aA:pq A parts.toList with
      |none=>grind
      |some aa=>
       simp[aA]at e;cases az:rB (λh=>f (h*d.size,d.size)) aa (aU (j*d.size) R.any)with
       |none=>grind
       |some J=>
        simp[az]at e;cases H:h3 J with
        |none=>grind
        |some aI=>
         simp[H]at e;cases ah:rr d.size j aI with
         |none=>grind
         |some ao=>
          simp only[ah,e3,lF]at e;obtain⟨rfl,rfl⟩:=e;have aS:d.size≠0:=λan=>by simp_all
          have aR:=fs G;obtain⟨aw,q,NG,aN,aO,a,br,aP,aQ⟩:=(aY u d F).cX;have av:q.cells.size=d.size:=N2;have ar:∀g∈q.cells.toList,dQ g=l:=by intro g L;have al:k2 g∈q.cells.toList.map k2:=hn.2 ⟨g,L,rfl⟩;rw[br]at al;obtain⟨aT,_,O⟩:=hn.1 al;exact(Rd.fl (bB:=b.D) O.symm).cell
          have aL:∀aH,(∀g∈(aB aH).map (λE=>q.cells[E % q.cells.size]!),dQ g=l):=by grind[Nat.mod_lt]
          have aC:∀z:m Y,(∀g∈z,dQ g=l)->bM k b z (aU (c z) R.any):=by
           intro z;induction z with
           |nil=>intro _;trivial
           |cons g z W=>intro L;exact⟨L g D,W λaJ au=>L aJ M⟩
          obtain⟨X,Z⟩:=yZ (k:=k) (b:=b) T aA;have aE:bM k b ((Array.range (j*d.size)).map (λE=>q.cells[E % q.cells.size]!)).toList (aU (j*d.size) R.any):=by have:=aC _ (aL (j*d.size));simpa using this
          obtain⟨B,aK,af⟩:=yb (k:=k) (b:=b) (vM:=λh=>f (h*d.size,d.size)) (λh aV S=>S) az X Z aE;have nK:=rv H af;obtain⟨aG,I⟩:=BQ (bB:=b.D) (z:=B.toList) ah (by simpa using nK.cJ) nK.eX;obtain⟨N,aj⟩:=Q.newRow u B.toList;refine⟨.value (.slice (f ⟨b.a.heap.size,0,n⟩) j j),b.newRow u B.toList,?_,?_,N,aj,?_⟩
          rotate_left 2
          .have an:(ab s r).events P b.a #[]=#[]:=Rn;rw[an];exact .nil
          .have au:=(aY o x C).run_underlying (p:=b.a);rw[ai]at au;have aD:(zeroValue u).run P b.a=.ok q b.a:=N5;have K:Instr.fill (λh=>f (h*d.size,d.size)) ((Array.range (j*d.size)).map (λE=>q.cells[E % q.cells.size]!)) (parts.map λ(x,ag)=>(x,s ag)).toList=f B:=bv;by_cases aF:j*d.size=0
           .have aM:j=0:=by grind[Nat.mul_eq_zero]
            subst aM;have aq:Array.range 0=#[]:=rfl;simp[aq]at K;simp[ab,t,Instr.buildSlice,au,(aY u d F).ba,aq,K,Go.newRow,a6.newRow]
           rw[show ab s r=(do pure (.value (<-Instr.buildSlice o j (parts.map λ(x,ag)=>(x,s ag))))) by simp[ab,t]];simp only[Instr.buildSlice,cJ,au,c8,(aY u d F).ba,aF,dm,aD,show¬j*d.size>2 ^ 24 by omega,su,K,dY];simp[Go.newRow,a6.newRow]
          refine Rd.er (I.mono aj.mem) (i:=b.a.heap.size) (off:=0) bn (bC _) ?_ bn (KT b u B.toList);have:j<=j*d.size:=uo j w;omega
  |_=>grind
def fq.trans{k aS a}{b i b5}(j:fq k b aS i)(m:fq aS i a b5):fq k b a b5:=by refine⟨λy z A s=>m.mem _ _ _ (j.mem _ _ _ s),λo p L aJ h=>?_⟩;obtain⟨w,d,e,g,u⟩:=j.box o p L aJ h;obtain⟨x,t,k1,q,r⟩:=m.box o w d e g;exact⟨x,t,k1,q,u.trans r⟩
def rC{a:m α}{d b:α}{e}(g:(a++[d])[e]?=f b):a[e]?=f b∨(e=c a/\b=d):=M
def bc.bY{j}(e:bc k j)(g:cN k b k j)(N:j.t=b.t)(q:bc k b){bS}{L}(aJ:ey (k++[bS]) {j with t:=j.t++[L]} bS L)(D:∀i∈L.ak,b.a.heap.size<=i/\i<j.a.heap.size):bc (k++[bS]) {j with t:=j.t++[L]}/\cN k b (k++[bS]) {j with t:=j.t++[L]}:=by
 have t:fq k j (k++[bS]) {j with t:=j.t++[L]}:=by refine⟨λ_ _ _ I=>I,λy p h m d=>?_⟩;have x:=(cO.1 d).1;have K:=(cO.1 m).1;exact⟨p,h,by grind,by grind,.refl _ _⟩
 have B:=g.ext.trans t;refine⟨⟨e.mem,by simp[e.len],?_,?_,?_,?_⟩,⟨g.size,g.a3,g.mem,g.bz,?_,B.box,g.os,g.tape,g.output,g.own⟩⟩
 .intro y p h m d;rcases rC m with F|⟨rfl,rfl⟩
  .have x:y<c j.t:=by rw[e.len];grind
   rw[j3 x]at d;exact(e.box y p h F d).b_ t e.len λ_ _=>⟨a,λ_=>rfl⟩
  rcases rC d with A|⟨_,rfl⟩
  .have:=(cO.1 A).1;rw[e.len]at this;omega
  grind
 .intro y C r s A u i cT o;rcases rC A with k1|⟨rfl,rfl⟩<;>rcases rC u with J|⟨rfl,rfl⟩
  .exact e.a1 y C r s k1 J i cT o
  .have ky:=D i o;have z:=q.lt r M i cT;omega
  .have ky:=D i cT;have z:=q.lt s M i o;omega
  simp
 .intro h d i cT;simp[fx,gJ]at d;rcases d with d|rfl
  .exact e.lt h d i cT
  grind
 .intro i cT;refine⟨(e.own i cT).1,λh d w=>?_⟩;simp[fx,gJ]at d;rcases d with d|rfl
  .exact(e.own i cT).2 h d w
  have E:=g.own;simp only at cT;rw[E]at cT;have:=(q.own i cT).1;grind
 grind
def bc.b7{cj}(m:bc k b){E eb}{L cv}(V:k[d]?=f E)(I:b.t[d]?=f L)(y:fM E L eb cv)(U:b.a.heap.size<=bi.heap.size)(S:∀e,e<b.a.heap.size->e∉L.ak->bi.heap[e]?=b.a.heap[e]?)(W:∀e,e<b.a.heap.size->e∉L.ak->∀r,cj e r=b.D e r)(F:∀e r u,b.D e r=f u->cj e r=f u)(O:∀e r u,cj e r=f u->bi.cell? ⟨e,r,n⟩=f u)(Z:∀e∈cv.ak,(e∈L.ak∨b.a.heap.size<=e)/\e<bi.heap.size)(D:bi.os=b.a.os)(R:bi.tape=b.a.tape)(N:bi.output=b.a.output)(aJ:ey (k.set d eb) ⟨b.t.set d cv,cj,bi,b.own⟩ eb cv):bc (k.set d eb) ⟨b.t.set d cv,cj,bi,b.own⟩/\cN k b (k.set d eb) ⟨b.t.set d cv,cj,bi,b.own⟩:=by
 have X:=(cO.1 V).1;have Y:=(cO.1 I).1;have x:∀g h,(b.t.set d cv)[g]?=f h->(g=d/\h=cv)∨(g≠d/\b.t[g]?=f h):=M;have s:fq k b (k.set d eb) ⟨b.t.set d cv,cj,bi,b.own⟩:=by
  refine⟨F,λg h w q z=>?_⟩;by_cases B:d=g
  .grind
  exact⟨h,w,by grind,by grind,.refl _ _⟩
 have J:∀g h,g≠d->b.t[g]?=f h->∀e∈h.ak,e<b.a.heap.size/\e∉L.ak:=by intro g h p q e i;exact⟨m.lt h (b_ q) e i,λT=>p (m.a1 g d h L q I e i T)⟩
 refine⟨⟨O,by simp[m.len],?_,?_,?_,?_⟩,⟨U,?_,F,?_,?_,s.box,D,R,N,a⟩⟩
 .intro g h w q z;rcases x g w z with⟨rfl,rfl⟩|⟨p,z⟩
  .grind
  rw[kA (λB=>p B.symm)]at q;refine(m.box g h w q z).b_ s m.len λe i=>?_;grind
 .intro g K h o q C e i t;rcases x g h q with⟨rfl,rfl⟩|⟨p,A⟩<;>rcases x K o C with⟨rfl,rfl⟩|⟨j,Q⟩
  .rfl
  .grind
  .grind
  exact m.a1 g K h o A Q e i t
 .intro h q e i;obtain⟨g,p,rfl⟩:=g4 q;rcases x g _ (bH p)with⟨rfl,B⟩|⟨j,C⟩
  .grind
  grind
 .intro e i;obtain⟨H,G⟩:=m.own e i;grind
 .grind
 .grind
 grind
def KU{a old bytes}(d:old<a)(b:a*bytes<=140737488355328):¬Builtin.nextslicecap a old*bytes>2 ^ 48:=by have:=growslice_fits d b;omega
section
variable {ac:m (Nat×cp)}(aY:b2 P ac){t2:al}{e O a4:cp}
def za(d:eJ P o e)(A:e.desc=.slice W)(w:eJ P t2 O)(u:O.desc=.slice W)(B:eJ P W a4)(D:bc k b){x}{cap}(t:j<=cap){r}{g}{a:Nat->m N}(q:Rd b.D r (.B g a4.size 0 a)):
  (Builtin.append_ #[o,t2] ty #[.slice x j cap,r]).run P b.a=.ok (.slice x j cap) b.a:=by obtain⟨F,E,C,J⟩:=oA (P:=P) D q;have i:=d.run_underlying (p:=b.a);have h:=w.run_underlying (p:=b.a);rw[A]at i;rw[u]at h;obtain⟨s,I,z,rfl,_⟩:=q.bZ;have y:=jC (by simpa using E.len);subst y;cases x<;>simp[Builtin.append_,i,h,B.ba,Builtin.lenOf,t,C,storeCells]
def vS(B:eJ P o e)(af:e.desc=.slice W)(aw:eJ P t2 O)(av:O.desc=.slice W)(L:eJ P W a4)(al:bc k b){r}{cap}{aj E}{g:Nat->m N}{i}(C:Rd b.D (.slice r j cap) (.B aj a4.size j V))(D:Rd b.D i (.B E a4.size A g))(ah:cap<j+A)(I:(j+A)*a4.bytes<=140737488355328)(y:a4.bytes≠0):
  ∃z q d,eX b.D a4.size (j+A) (cg j V g) z/\j+A<=d/\d<=9223372036854775807/\c (z++q)=d*a4.size /\
   (Builtin.append_ #[o,t2] ty #[.slice r j cap,i]).run P b.a=.ok (.slice (f ⟨b.a.heap.size,0,n⟩) (j+A) d) (b.a.drew.alloc (.cells (z++q).toArray W)):=by
 have ab:bc k {b with a:=b.a.drew}:=al.same rfl;obtain⟨t,K,u,ar⟩:=oA (P:=P) ab (aa:=i) D;obtain⟨s,X,x,U⟩:=oA (P:=P) ab (aa:=.slice r j cap) C;have Q:=B.run_underlying (p:=b.a);have S:=aw.run_underlying (p:=b.a);rw[af]at Q;rw[av]at S;obtain⟨Z,F,J,ax,az,ai,ag,aA,aC⟩:=L.cX;have T:=fQ (uo _ (Nat.pos_of_ne_zero y)) I;have H:F.cells.size=a4.size:=by have:=eD List.length ag;grind
 refine⟨s++t,(Builtin.zeroCells F.cells (grownCap b.a (j+A) cap W-(j+A))).toList,grownCap b.a (j+A) cap W,X.append K,grownCap_ge _ _ _ _,?_,?_,?_⟩
 .have:=grownCap_le_maxLen b.a (j+A) cap W (by unfold maxLen;omega);unfold maxLen at this;omega
 .have aM:=grownCap_ge b.a (j+A) cap W;simp[dk,X.len,K.len,m9,size_zeroCells,H,<-jE];grind
 .have aD:=KU ah I;have au:¬Builtin.nextslicecap (j+A) cap*Z.bytes>2 ^ 48:=M;have aq:¬j+A<=cap:=w;have R:¬((j+A:Nat):Int)>IntKind.i64.max:=bv;have G:∀h,(typeInfo W).run P h=.ok Z h:=λh=>by simp[typeInfo,J]
  have ae:∀h,(zeroValue W).run P h=.ok F h:=λh=>by simp[zeroValue,typeInfo,J,ai]
  have ao:(Builtin.lenOf i).run P b.a=.ok A b.a:=by rw[ar];rfl
  replace u:(Builtin.firstCells a4.size A i).run P b.a.drew=.ok t.toArray b.a.drew:=u;replace x:(Builtin.firstCells a4.size j (.slice r j cap)).run P b.a.drew=.ok s.toArray b.a.drew:=x
  unfold Builtin.append_;simp only[j4,mg,nZ,cJ,Q,S,c8,L.ba,dY,j5,dm,ao,aq,
   R,false_and,G,au,run_choose,Question.forced,run_askRoom,su,World.drew_eq,x,u,hJ,dv,ae]
  simp[Go.newRow,grownCap];have an:∀a:Array Y,(s++t).toArray++a=(s++(t++a.toList)).toArray:=λa=>by grind
  rw[an];rfl
def D6(g:eJ P o e)(I:e.desc=.slice W)(F:eJ P t2 O)(E:O.desc=.slice W)(J:eJ P W a4)(B:bc k b){cap}{x}{s}(K:b.a.heap[i]?=f (.cells s.toArray x (0,0)))(D:c s=cap*a4.size){q}{a:Nat->m N}{r}(y:Rd b.D r (.B q a4.size A a))(w:j+A<=cap):
  ∃d,eX b.D a4.size A a d/\(Builtin.append_ #[o,t2] ty #[.slice (f ⟨i,0,n⟩) j cap,r]).run P b.a=.ok (.slice (f ⟨i,0,n⟩) (j+A) cap) (b.a.setRow i (s.take (j*a4.size)++d++s.drop (j*a4.size+c d)).toArray):=by
 obtain⟨d,h,R,Q⟩:=oA (P:=P) B y;have z:=g.run_underlying (p:=b.a);have t:=F.run_underlying (p:=b.a);rw[I]at z;rw[E]at t;have S:j*a4.size+c d<=c s:=by rw[h.len,D,<-jE];exact g5 _ w
 have u:=run_storeCells_at P i (j*a4.size) x d 0 s.toArray b.a K M h.cell;simp[j6]at u;have C:(Builtin.lenOf r).run P b.a=.ok A b.a:=ds;refine⟨d,h,?_⟩;unfold Builtin.append_;simp[j4,mg,nZ,cJ,z,t,c8,J.ba,dY,j5,dm,C,w,dv,hJ,R,g0,cX,u]
end
def Dp{b:Sem α}{V}{a}(d:a∈b.events P p V):a∈V∨a∈b.events P p #[]:=by grind[Sem.events_acc]
def LV(e:a6)(d:aO):Prop:=∃a b g,d=ps a b/\e.D a b=f g
def sN(J:bc k b){o}{h}(B:Rd b.D aa (.B o h j V))(F:p.heap=b.a.heap):
  ∀u∈(Builtin.firstCells h j aa).events P p #[],LV b u:=by
 obtain⟨D,A,z,rfl,S,Q,O,C,I⟩:=B.bZ;have N:=C.len;intro u i;cases D with
 |none=>simp[Builtin.firstCells]at i
 |some s=>
  simp[Builtin.firstCells]at i;have t:∀e,e<j*h->∃g d m,s=⟨g,d,n⟩/\b.D g (d+e)=f m:=by intro e q;obtain⟨g,d,y,r⟩:=I e (z[e]'w) (bH w);grind
  by_cases K:j*h=0
  .rw[K]at i;simp[loadCells,loadCellsFrom]at i
  obtain⟨g,d,_,rfl,_⟩:=t 0 w;have R:∀e,e<j*h->∃aa,p.cell? ⟨g,d+e,n⟩=f aa:=by intro e q;obtain⟨M,E,m,x,r⟩:=t e q;cases x;have:=J.mem _ _ _ r;exact⟨m,by simp[aH,F]at this⊢;omega⟩
  rcases I7 (P:=P) R u i with B|⟨e,q,rfl⟩
  .grind
  obtain⟨M,E,m,x,r⟩:=t e q;cases x;exact⟨_,_,m,a,r⟩
theorem tm{a}(e:LV b a):h4 b a:=by obtain⟨g,h,i,rfl,d⟩:=e;exact IE d
section
variable {t2:al}{e O a4:cp}
def x1(g:eJ P o e)(E:e.desc=.slice W)(B:eJ P t2 O)(A:O.desc=.slice W)(F:eJ P W a4)(s:bc k b){q}{cap}(x:j<=cap){u}{i}{d:Nat->m N}(h:Rd b.D u (.B i a4.size 0 d)):
  du b ((Builtin.append_ #[o,t2] ty #[.slice q j cap,u]).events P b.a #[]):=by obtain⟨M,K,I,R⟩:=oA (P:=P) s h;have D:=sN (P:=P) s h (p:=b.a) a;have t:=g.run_underlying (p:=b.a);have r:=B.run_underlying (p:=b.a);rw[E]at t;rw[A]at r;obtain⟨w,Q,z,rfl,_⟩:=h.bZ;have C:=jC (by simpa using K.len);subst C;intro y J;refine tm (D y ?_);cases q<;>simpa[Builtin.append_,t,r,F.ba,Builtin.lenOf,x,I,storeCells]using J
def u4(B:eJ P o e)(aj:e.desc=.slice W)(G:eJ P t2 O)(y:O.desc=.slice W)(K:eJ P W a4)(u:bc k b){q}{cap}{C D}{s:Nat->m N}{d}(T:Rd b.D (.slice q j cap) (.B C a4.size j V))(S:Rd b.D d (.B D a4.size A s))(al:cap<j+A)(J:(j+A)*a4.bytes<=140737488355328)(ah:a4.bytes≠0):
  du b ((Builtin.append_ #[o,t2] ty #[.slice q j cap,d]).events P b.a #[]):=by
 have I:bc k {b with a:=b.a.drew}:=u.same rfl;obtain⟨az,aq,t,U⟩:=oA (P:=P) I (aa:=d) S;obtain⟨av,X,x,ab⟩:=oA (P:=P) I (aa:=.slice q j cap) T;have Y:=sN (P:=P) u S (p:=b.a.drew) a;have aJ:=sN (P:=P) u T (p:=b.a.drew) a;have Q:=B.run_underlying (p:=b.a);have af:=G.run_underlying (p:=b.a);rw[aj]at Q;rw[y]at af;obtain⟨z,aA,aM,aC,aE,F,aG,aH,aI⟩:=K.cX;have Z:=fQ (uo _ (Nat.pos_of_ne_zero ah)) J;have ae:=KU al J;have R:¬Builtin.nextslicecap (j+A) cap*z.bytes>2 ^ 48:=M;have aw:¬j+A<=cap:=w;have H:¬((j+A:Nat):Int)>IntKind.i64.max:=bv;have ai:∀h,(typeInfo W).run P h=.ok z h:=λh=>by simp[typeInfo,aM]
 have L:∀h,(zeroValue W).run P h=.ok aA h:=λh=>by simp[zeroValue,typeInfo,aM,F]
 have an:(Builtin.lenOf d).run P b.a=.ok A b.a:=by rw[U];rfl
 have au:(Builtin.lenOf d).events P b.a #[]=#[]:=by rw[U];rfl
 replace t:(Builtin.firstCells a4.size A d).run P b.a.drew=.ok az.toArray b.a.drew:=t;replace x:(Builtin.firstCells a4.size j (.slice q j cap)).run P b.a.drew=.ok av.toArray b.a.drew:=x
 intro r i;unfold Builtin.append_ at i;simp only[j4,mg,nZ,aD,cJ,Q,af,c8,aF,K.ba,dY,j5,dm,an,au,aw,
  H,false_and,ai,R,run_choose,Question.forced,run_askRoom,su,Sem.events_ite,World.drew_eq,x,t,hJ,dv,L,events_underlying,events_sizeOf,events_typeInfo,events_choose,events_zeroValue,Sem.events_pure]at i
 have ag:∀(d:Nat) (p:ar) (r:aO),r∈(askRoom d).events P p #[]->r=⟨.mark .noRoom,v,l⟩:=by intro d p r ao;unfold askRoom at ao;simp_all
 rw[dz.newRow (P:=P)]at i;generalize(Go.newRow W _).run P b.a.drew=ax at i;have g:r∈(Builtin.firstCells a4.size A d).events P b.a.drew ((Builtin.firstCells a4.size j (.slice q j cap)).events P b.a.drew ((askRoom ((Question.appendCap (j+A) cap W).cut (b.a.tape b.a.drawn (Question.appendCap (j+A) cap W))*z.bytes)).events P b.a.drew #[])):=by
  cases ax with
  |ok aa E=>simpa using i
  |halt aa E=>simpa using i
 rcases Dp g with g|g
 .rcases Dp g with g|g
  .rw[ag _ _ _ g];exact .inl a
  grind[tm]
 grind[tm]
def Cf(h:eJ P o e)(z:e.desc=.slice W)(K:eJ P t2 O)(J:O.desc=.slice W)(B:eJ P W a4)(G:bc k b){cap}{R}{d}(y:b.a.heap[i]?=f (.cells d.toArray R (0,0)))(I:c d=cap*a4.size){r3}{dG:Nat->m N}{F}(s:Rd b.D F (.B r3 a4.size A dG))(x:j+A<=cap){L}(Y:L∈b.t)(U:i∈L.ak)(ab:∀w,j*a4.size<=w->b.D i w=n):
  du b ((Builtin.append_ #[o,t2] ty #[.slice (f ⟨i,0,n⟩) j cap,F]).events P b.a #[]):=by
 obtain⟨g,q,aM,Q⟩:=oA (P:=P) G s;have T:=sN (P:=P) G s (p:=b.a) a;have H:=h.run_underlying (p:=b.a);have t:=K.run_underlying (p:=b.a);rw[z]at H;rw[J]at t;have S:j*a4.size+c g<=c d:=by rw[q.len,I,<-jE];exact g5 _ x
 have u:=run_storeCells_at P i (j*a4.size) R g 0 d.toArray b.a y M q.cell;simp[j6]at u;have D:(Builtin.lenOf F).run P b.a=.ok A b.a:=ds;have E:(Builtin.lenOf F).events P b.a #[]=#[]:=ds
 intro C r;unfold Builtin.append_ at r;simp[j4,mg,nZ,aD,cJ,H,t,aF,B.ba,dY,j5,dm,D,E,x,dv,hJ,aM,g0,cX,u,
  su,Sem.events_ite,events_underlying,events_sizeOf,Sem.events_pure]at r
 rcases nj g 0 d.toArray b.a _ y M q.cell C r with Z|⟨aa,X,V,rfl⟩
 .grind [tm]
 grind[oa]
end
structure jY(P:aE)(r:an)(F bF:ae)(W:al)(a4:cp):Prop where
 op:∃o t2 e O,r.op=.call {callee:=.builtin .append,args:=#[F,bF],argTypes:=#[o,t2]}/\eJ P o e/\e.desc=.slice W/\eJ P t2 O/\O.desc=.slice W
 elem:eJ P W a4
 bytes:a4.bytes≠0
 size:a4.size≠0
def a6.dC(a:a6)(h:al)(z b:m Y)(d:m Loc):a6:=
 {t:=d,D:=λe g=>if e=a.a.heap.size then z[g]? else a.D e g,a:=a.a.drew.alloc (.cells (z++b).toArray h),own:=a.own}
def JX(j:bc k b)(W)(z a:m Y):∀d e h,(if d=b.a.heap.size then z[e]? else b.D d e)=f h->(b.a.drew.alloc (.cells (z++a).toArray W)).cell? ⟨d,e,n⟩=f h:=by
 intro d e h g;by_cases i:d=b.a.heap.size
 .subst i;simp[dv]at g;unfold aH;have:(b.a.drew.alloc (.cells (z++a).toArray W)).heap[b.a.heap.size]?=f (.cells (z++a).toArray W):=lT b.a.drew _;grind
 simp[i,dm]at g;have o:=j.block g;rw[<-j.mem d e h g];unfold aH;have:(b.a.drew.alloc (.cells (z++a).toArray W)).heap[d]?=b.a.heap[d]?:=iV b.a.drew _ o;grind
def JY(h:bc k b)(z:m Y):∀a d e,b.D a d=f e->(if a=b.a.heap.size then z[d]? else b.D a d)=f e:=by intro a d e g;have:=h.block g;grind
theorem iS{A}(a:du b (A.events P b.a #[])):du b ((do pure (.value (<-A)):Sem Next).events P b.a #[]):=ds
theorem lb{d e:ae}{b:al}(t:r.op=.call {callee:=.builtin .append,args:=#[d,e],argTypes:=#[o,b]})(a:ae->Y):
  ab a r=(do pure (.value (<-Builtin.append_ #[o,b] r.type #[a d,a e]))):=RH
def Rd.ei{o}{h}(q:Rd bB aa (.B o h j V)):Rd bB aa (.B v h j V):=by
 cases q with
 |B m a p k d r e b g i=>exact .B m a p k d D e b g i
def Rd.cA{o}{h}{dG:Nat->m N}(z:∀b,b<j->V b=dG b)(x:Rd bB aa (.B o h j V)):Rd bB aa (.B o h j dG):=by
 cases x with
 |B u d w t i r y g p q=>exact .B u d w t i r (λb a=>by grind) g (λb a s e k=>p b a s e M) (λb a s e k=>q b a s e M)
def Rd.fQ{h gk}(a:h=gk∨j=0)(d:Rd bB aa (.B l h j V)):Rd bB aa (.B l gk j V):=by
 rcases a with rfl|rfl
 .exact d
 obtain⟨e,b,z,i,k,g,m,_⟩:=d.bZ;grind[Rd.dJ]
def tl{h}{L}(aJ:k[d]?=f (.x W h j V))(o:b.t[d]?=f L)(e:ey k b (.x W h j V) L):cA k b L.v (.x d h j V):=by refine⟨e.1,(cO.1 aJ).1,λp i m a g=>?_⟩;grind
def a1.fZ{X Y:ae}{e:cp}(s:jY P r X Y W e){aa:Nat}{U:Bool}{dG:Nat->m N}(ao:η X=ax (.B l aa j V))(Q:aa=e.size∨j=0)(an:∀d J,bx k d J (η Y)->Rd d.D J (.B U e.size A dG))(g:(j+A)*e.bytes<=140737488355328)(ar:j=0∨0<A):
  a1 P r η k (.n (.Q (.x (c k) e.size (j+A) (cg j V dG)))) (k++[.x W e.size (j+A) (cg j V dG)]):=by
 intro d aw bP E;obtain⟨aD,av,au,aA,t,h,G,I,F⟩:=s.op;have B:=E X;rw[ao]at B;have p:=Rd.fQ Q (b7 B);have o:=an d _ (E Y);obtain⟨x,b,z,aq,ab,aM,ai,az,C⟩:=p.bZ;have H:b=j:=ai a;subst H;rw[lb t];rw[aq]at p⊢;by_cases aj:A=0
 .subst aj;have T:=za (P:=P) (ty:=r.type) h G I F s.elem bP (x:=x) ab o;simp only[j6];have p:=Rd.cA (dG:=cg b V dG) (λau h=>by grind) p;have aJ:ey (k++[.x W e.size b (cg b V dG)]) {d with t:=d.t++[⟨.slice x b b,[]⟩]} (.x W e.size b (cg b V dG)) ⟨.slice x b b,[]⟩:=⟨p.ei,.inl ⟨⟨rfl,by omega⟩,p⟩⟩
  obtain⟨O,M⟩:=bP.bY (.refl _ _) rfl bP aJ D;refine⟨.value (.slice x b b),_,?_,?_,O,M,iS (x1 h G I F s.elem bP ab o)⟩
  .simp[T]
  exact tl D tX aJ
 have Z:b<b+A:=w;obtain⟨q,R,u,y,ag,L,af,T⟩:=vS (P:=P) (ty:=r.type) h G I F s.elem bP p o Z g s.bytes;have K:bc k (d.dC W q R d.t)/\cN k d k (d.dC W q R d.t):=
  bP.cW D (λi g=>iV d.a.drew _ g) (λi g r=>by grind)
   (λi g r J C=>JX bP W q R i r J C) a a a
 have ah:Rd (d.dC W q R d.t).D (.slice (f ⟨d.a.heap.size,0,n⟩) (b+A) u) (.B v e.size (b+A) (cg b V dG)):=
  Rd.er (y.mono K.2.mem) (i:=d.a.heap.size) (off:=0) bn ag L D (λaC aE al=>by simpa[a6.dC]using al)
 have aJ:ey (k++[.x W e.size (b+A) (cg b V dG)]) {(d.dC W q R d.t)with t:=(d.dC W q R d.t).t++[⟨.slice (f ⟨d.a.heap.size,0,n⟩) (b+A) u,[d.a.heap.size]⟩]} (.x W e.size (b+A) (cg b V dG)) ⟨.slice (f ⟨d.a.heap.size,0,n⟩) (b+A) u,[d.a.heap.size]⟩:=by
  refine⟨ah,.inr ⟨d.a.heap.size,u,q++R,a,lT d.a.drew _,af,λr t=>?_⟩⟩;have S:c q<=r:=by rw[y.len];exact t
  simp[a6.dC,wT S]
 obtain⟨O,M⟩:=K.1.bY K.2 rfl bP aJ (λi g=>by simp at g;subst g;refine⟨bC _,?_⟩;simp[a6.dC]);refine⟨.value (.slice (f ⟨d.a.heap.size,0,n⟩) (b+A) u),_,?_,?_,O,M,iS (u4 h G I F s.elem bP p o Z g s.bytes)⟩
 .simp[T];rfl
 exact tl D (by simp[a6.dC,<-bP.len]) aJ
def a1.ia{aS aT:ae}{a4}(B:jY P r aS aT W a4){aR}{g:Nat->m N}(aP:η aS=.n (.Q (.x d a4.size j V)))(s:k[d]?=f (.x W a4.size j V))(aQ:∀o S,bx k o S (η aT)->Rd o.D S (.B aR a4.size A g))(p:(j+A)*a4.bytes<=140737488355328):
  a1 P r η k (.n (.Q (.x d a4.size (j+A) (cg j V g)))) (k.set d (.x W a4.size (j+A) (cg j V g))):=by
 intro o bg b ao;obtain⟨bk,bf,aq,bh,u,q,Z,G,y⟩:=B.op;have aL:d<c k:=(cO.1 s).1;have ab:=ao aS;rw[aP]at ab;obtain⟨av,_,af⟩:=ab;obtain⟨L,J,bd⟩:=(af _ _ _ _ s).2 rfl;have t:=aQ o _ (ao aT);have aK:d<c o.t:=(cO.1 J).1;have H:=b.box d _ L s J;obtain⟨x,e,z,Q,aM,ai,bc,ag,bb⟩:=av.bZ;rw[lb u,Q];rw[Q]at av;have aw:L.v=.slice x j e:=M;by_cases aG:A=0
 .subst aG;have au:=za (P:=P) (ty:=r.type) q Z G y B.elem b (x:=x) aM t;simp only[j6];have ah:∀aq,aq<j->V aq=cg j V g aq:=λaq q=>by simp[cg,q]
  have O:ey (k.set d (.x W a4.size j (cg j V g))) ⟨o.t.set d L,o.D,o.a,o.own⟩ (.x W a4.size j (cg j V g)) L:=by
   refine⟨H.1.cA ah,?_⟩;rcases H.2 with⟨F,aI⟩|F
   .exact .inl ⟨F,aI.cA ah⟩
   grind
  have E:=b.b7 (cj:=o.D) (bi:=o.a) (eb:=.x W a4.size j (cg j V g)) (cv:=L) s J ⟨λ_=>rfl,bC _⟩ (bC _) (λ_ _ _=>rfl) (λ_ _ _ _=>rfl) (λ_ _ _ B=>B) b.mem
   (λi p=>⟨.inl p,b.lt L (b_ J) i p⟩) a a a O
  refine⟨.value (.slice x j e),_,?_,?_,E.1,E.2,iS (x1 q Z G y B.elem b aM t)⟩
  .simp[au]
  rw[<-aw];exact tl (W:=W) M M O
 .have I:¬(j+A=j):=w;by_cases az:j+A<=e
  .rcases H.2 with⟨a0,aV⟩|⟨i,aF,h,rfl,hw,aD,br⟩
   .rw[aw]at aV;obtain⟨_,_,_,ax,_,_,a8,_⟩:=aV.bZ;grind
   .simp only at aw;cases aw;obtain⟨C,K,au⟩:=D6 (P:=P) (ty:=r.type) q Z G y B.elem b hw aD t az;have a6:c C=A*a4.size:=K.len;have aJ:i<o.a.heap.size:=(jb.1 hw).1;let cj:Mem:=λR r=>if R=i/\j*a4.size<=r/\r<(j+A)*a4.size then C[r-j*a4.size]? else o.D R r;have a2:c h=e*a4.size:=aD;have a7:(j+A)*a4.size=j*a4.size+A*a4.size:=jE _ _ _;have a5:(j+A)*a4.size<=e*a4.size:=g5 _ az;have aY:∀R r S,o.D R r=f S->cj R r=f S:=M;have aO:∀aA aC,C[aA]?=f aC->cj i (j*a4.size+aA)=f aC:=M;have aE:Rd cj (.slice (f ⟨i,0,n⟩) (j+A) e) (.B v a4.size (j+A) (cg j V g)):=by refine Rd.er (z:=z++C) ((ag.append K).mono aY) (i:=i) (off:=0) bn az ai D (λaA aC aN=>?_);have a9:c z=j*a4.size:=ag.len;grind
    have E:=b.b7 (cj:=cj) (bi:=o.a.setRow i (h.take (j*a4.size)++C++h.drop (j*a4.size+c C)).toArray) (eb:=.x W a4.size (j+A) (cg j V g)) (cv:=⟨.slice (f ⟨i,0,n⟩) (j+A) e,[i]⟩) s J
     ⟨λax=>absurd ax I,by omega⟩ D (λR _ aa=>setRow_other _ _ _ _ M) (λR _ aa r=>by grind) aY ?_ (λR aa=>by simp at aa;exact bv) a a a ?_
    .refine⟨.value (.slice (f ⟨i,0,n⟩) (j+A) e),_,?_,?_,E.1,E.2,iS (Cf q Z G y B.elem b hw aD t az (b_ J) D br)⟩
     .simp[au]
     exact tl (L:=⟨.slice (f ⟨i,0,n⟩) (j+A) e,[i]⟩) (W:=W) M M (E.1.box d _ _ M M)
    .intro R r S Y;by_cases aa:R=i
     .subst aa;have a':∀a_,(o.a.setRow R (h.take (j*a4.size)++C++h.drop (j*a4.size+c C)).toArray).cell? ⟨R,a_,n⟩=(h.take (j*a4.size)++C++h.drop (j*a4.size+c C))[a_]?:=by grind[cell_setRow_same]
      rw[a'];simp only[cj]at Y;have a3:c (h.take (j*a4.size))=j*a4.size:=by rw[List.length_take];omega
      split at Y
      .grind
      rename_i ba;have F:=b.mem R r S Y;have u:r<j*a4.size:=M;rw[mi,j3 w,iq,bo u];simp only[aH,hw]at F;grind
     simp only[cj]at Y;rw[bj w]at Y;rw[<-b.mem R r S Y];exact Qc
    refine⟨aE,.inr ⟨i,e,_,a,setRow_heap _ _ _ _ _ _ hw,M,λr u=>?_⟩⟩;grind
  .have aj:e<j+A:=w;obtain⟨T,X,ar,aW,al,an,U,au⟩:=vS (P:=P) (ty:=r.type) q Z G y B.elem b av t aj p B.bytes;have aZ:∀i∈L.ak,i<o.a.heap.size:=b.lt L (b_ J);have aE:Rd (λi r=>if i=o.a.heap.size then T[r]? else o.D i r) (.slice (f ⟨o.a.heap.size,0,n⟩) (j+A) ar) (.B v a4.size (j+A) (cg j V g)):=
    Rd.er (aW.mono (JY b T)) (i:=o.a.heap.size) (off:=0) bn al an D (λaA aC aN=>by grind)
   have E:=b.b7 (cj:=λi r=>if i=o.a.heap.size then T[r]? else o.D i r) (bi:=o.a.drew.alloc (.cells (T++X).toArray W)) (eb:=.x W a4.size (j+A) (cg j V g)) (cv:=⟨.slice (f ⟨o.a.heap.size,0,n⟩) (j+A) ar,[o.a.heap.size]⟩) s J
    ⟨λax=>absurd ax I,by omega⟩ D (λi p _=>iV o.a.drew _ p) (λi p _ r=>by grind) (JY b T) (JX b W T X) (λi p=>by
     simp at p;exact bv) a a a ⟨aE,.inr ⟨o.a.heap.size,ar,T++X,a,lT o.a.drew _,U,λr u=>by
      have s:c T<=r:=by rw[aW.len];exact u
      grind⟩⟩
   refine⟨.value (.slice (f ⟨o.a.heap.size,0,n⟩) (j+A) ar),_,?_,?_,E.1,E.2,iS (u4 q Z G y B.elem b av t aj p B.bytes)⟩
   .simp[au]
   exact tl (L:=⟨.slice (f ⟨o.a.heap.size,0,n⟩) (j+A) ar,[o.a.heap.size]⟩) (W:=W) M M (E.1.box d _ _ M M)
def dx{a:Type}:m Nat->m a->Option (m a)
  |[],_=>f []
  |e::b,d=>match c_ e d with
    |some h=>match dx b d with
      |some g=>f (h::g)
      |none=>n
    |none=>n
def ld{d:Type}:∀a (e:m d),c_ a e=e[a]?
  |_,[]=>by simp[c_]
  |0,g::_=>by simp[c_]
  |a+1,_::b=>by simpa[c_]using ld a b
def l4{i:Type}:∀{a:m Nat} {b e:m i},dx a b=f e->c e=c a/\∀(k g:Nat),a[k]?=f g->∃h,e[k]?=f h/\b[g]?=f h
  |[],b,e,d=>by cases d;simp
  |g::a,b,e,d=>by
    simp[dx]at d;cases o:c_ g b with
    |none=>grind
    |some h=>
      cases j:dx a b with
      |none=>grind
      |some r=>
        simp[o,j]at d;subst d;obtain⟨p,q⟩:=l4 j;grind[et]
def vW{i o:Type}:∀{a:m Nat} {d h:m i} {kL:m o},dx a d=f h->c kL=c d->∃b,dx a kL=f b
  |[],d,h,kL,_,_=>⟨[],rfl⟩
  |g::a,d,h,kL,r,j=>by
    simp[dx]at r;cases q:c_ g d with
    |none=>grind
    |some t=>
      cases p:dx a d with
      |none=>grind
      |some s=>
        obtain⟨b,k⟩:=vW (kL:=kL) p j;have e:g<c kL:=by rw[j];exact(cO.1 (et q)).1
        exact⟨kL[g]::b,by simp[dx,ld,e,k]⟩
def kp(a:m Nat):R->R
  |.ptr d i=>match c_ d a with|some b=>.ptr b i|none=>.any
  |.x d b g e=>match c_ d a with|some h=>.x h b g e|none=>.c (.B v b g e)
  |.aM d=>match c_ d a with|some b=>.aM b|none=>.any
  |.O d j=>match c_ d a with|some b=>.O b j|none=>.any
  |.c k=>.c k
  |.any=>.any
def qI(a:m Nat):m R->m R
  |[]=>[]
  |b::d=>kp a b::qI a d
def pt(a:m Nat):E1->E1
  |.Q d=>.Q (kp a d)
  |.agg b=>.agg (qI a b)
def tn(a:m Nat):m E1->m E1
  |[]=>[]
  |b::d=>pt a b::tn a d
def fc(a:m Nat):y->y
  |.n d=>.n (pt a d)
  |.S b=>.S (tn a b)
  |.any=>.any
def gn(a:m Nat):m y->m y
  |[]=>[]
  |b::d=>fc a b::gn a d
def DM:R->Bool
  |.c _|.any=>l
  |_=>v
def y3:m R->Bool
  |[]=>l
  |a::b=>match DM a with|true=>y3 b|false=>v
def vN:aq->Bool
  |.cells _ a=>y3 a
  |.loop ..=>v
  |_=>l
def ew:m aq->Bool
  |[]=>l
  |a::b=>match vN a with|true=>ew b|false=>v
def vO:∀{e:m aq},ew e=l->∀a∈e,vN a=l
  |[],_,a,aJ=>by grind
  |g::h,b,a,aJ=>by
    simp[ew]at b;cases d:vN g with
    |false=>grind
    |true=>
      simp[d]at b;rcases e9.1 aJ with rfl|aJ
      · exact d
      · exact vO b a aJ
def bM.plain{k ap}{b aA}(j:aA.D=b.D):∀{z:m Y} {a:m R},y3 a=l->bM k b z a->bM ap aA z a
  |[],[],_,_=>trivial
  |[],_::_,_,d=>d.elim
  |_::_,[],_,d=>d.elim
  |o::z,g::i,e,d=>by
    simp[y3]at e;cases h:DM g with
    |false=>grind
    |true=>
      simp[h]at e;refine⟨?_,bM.plain j e d.2⟩;cases g with
      |c p=>have:=d.1;simp[cA]at this⊢;grind
      |any=>exact d.1
      |_=>simp[DM]at h
def ey.plain{k ap}{b aA}(d:aA.D=b.D)(g:aA.a=b.a){e}{L}(m:vN e=l)(a:ey k b e L):ey ap aA e L:=by
  cases e with
  |cells j p=>
    obtain⟨o,z,i,r,q,x⟩:=a;exact⟨o,z,i,by grind,q.plain d m,λy=>by simp_all⟩
  |x j s t h=>simp[ey,d,g]at a⊢;exact a
  |K H=>simp[ey,d,g]at a⊢;exact a
  |M=>trivial
  |loop w u A=>simp[vN]at m
  |bl=>simp[ey,d,g]at a⊢;exact a
  |q j s t h=>simp[ey,d,g]at a⊢;exact a
def ek:Nat->m Nat->Bool
  |_,[]=>v
  |a,d::b=>match ad a d with|true=>l|false=>ek a b
def fb:m Nat->Bool
  |[]=>l
  |b::a=>match ek b a with|true=>v|false=>fb a
theorem vy:∀{a:Nat} {d:m Nat},a∈d->ek a d=l
  |a,[],b=>by grind
  |a,e::h,b=>by
    simp[ek];cases g:ad a e with
    |true=>rfl
    |false=>
      rcases e9.1 b with rfl|b
      · grind[Nat.beq_refl]
      · exact vy b
def KY:∀{h:m Nat},fb h=l->∀(b d e:Nat),h[b]?=f e->h[d]?=f e->b=d
  |[],_,b,d,e,a,_=>by grind
  |o::k,g,b,d,e,a,i=>by
    simp[fb]at g;cases p:ek o k with
    |true=>grind
    |false=>
      simp[p]at g;have r:∀j,k[j]?=f o->False:=λj q=>by have:=vy (b_ q);grind
      cases b with
      |zero=>
        grind
      |succ b=>
        cases d with
        |zero=>
          grind
        |succ d=>
          simp at a i;rw[KY g b d e a i]
def lV(a:Nat):R->Bool
  |.ptr d _|.x d _ _ _|.aM d|.O d _=>ay (d+1) a
  |_=>l
def lg(a:Nat):m R->Bool
  |[]=>l
  |b::d=>match lV a b with|true=>lg a d|false=>v
def pe(b:Nat):E1->Bool
  |.Q d=>lV b d
  |.agg a=>lg b a
def oj(a:Nat):m E1->Bool
  |[]=>l
  |b::d=>match pe a b with|true=>oj a d|false=>v
def hO(b:Nat):y->Bool
  |.n d=>pe b d
  |.S a=>oj b a
  |.any=>l
def ha(a:Nat):m y->Bool
  |[]=>l
  |b::d=>match hO a b with|true=>ha a d|false=>v
section sub
variable {ly:m Loc}
def cA.sub(K:dx aV k=f ap)(Q:dx aV b.t=f ly){m}(O:cA k b aa (kp aV m))(o:lV (c aV) m=l):cA ap {b with t:=ly} aa m:=by
  obtain⟨T,q⟩:=l4 K;obtain⟨N,p⟩:=l4 Q;cases m with
  |c s=>exact O
  |any=>exact O
  |ptr g R=>
    have a:g<c aV:=fs o;simp[kp,ld,bH a]at O;obtain⟨d,L,D,e,h,y⟩:=O;obtain⟨s,r,z⟩:=q g _ (bH a);obtain⟨A,j,i⟩:=p g _ (bH a);rw[i]at e;cases e;exact⟨λt x=>d t M,L,D,j,h,y⟩
  |x g E I u=>
    have a:g<c aV:=fs o;simp[kp,ld,bH a]at O;obtain⟨d,e,h⟩:=O;obtain⟨s,r,z⟩:=q g _ (bH a);obtain⟨A,j,i⟩:=p g _ (bH a);refine⟨d,by grind,λC F J B x=>?_⟩;grind
  |aM g=>
    have a:g<c aV:=fs o;simp[kp,ld,bH a]at O;obtain⟨d,L,e,h,y⟩:=O;obtain⟨s,r,z⟩:=q g _ (bH a);obtain⟨A,j,i⟩:=p g _ (bH a);rw[i]at e;cases e;exact⟨λt x=>d t M,L,j,h,y⟩
  |O g S=>
    have a:g<c aV:=fs o;simp[kp,ld,bH a]at O;obtain⟨w,d,e,h⟩:=O;obtain⟨s,r,z⟩:=q g _ (bH a);obtain⟨A,j,i⟩:=p g _ (bH a);refine⟨w,d,(cO.1 r).1,λC E I u x=>?_⟩;grind
def cA.cN{fe}{b5}(J:b5.D=b.D)(t:∀(r:Nat) s,k[r]?=f s->∃g,aV[r]?=f g/\fe[g]?=f s)(C:∀(r:Nat) L,b.t[r]?=f L->∃g,aV[r]?=f g/\b5.t[g]?=f L)(O:c b.t=c k){u}(m:cA k b aa u):cA fe b5 aa (kp aV u):=by
  cases u with
  |c R=>simp[kp,cA,J];exact m
  |any=>exact m
  |ptr d N=>
    obtain⟨e,L,E,a,q,B⟩:=m;obtain⟨g,k1,w⟩:=C d L a;have h:d<c k:=M;obtain⟨i,o,I⟩:=t d _ (bH h);rw[k1]at o;cases o;simp[kp,ld,k1];refine⟨λs A=>?_,L,E,w,q,B⟩;grind
  |x d g K F=>
    obtain⟨e,a,q⟩:=m;obtain⟨k1,y,j⟩:=t d _ (bH a);simp[kp,ld,y];refine⟨by grind,(cO.1 j).1,λD i z p A=>?_⟩;grind
  |aM d=>
    obtain⟨e,L,a,q,B⟩:=m;obtain⟨g,k1,w⟩:=C d L a;have h:d<c k:=M;obtain⟨i,o,I⟩:=t d _ (bH h);rw[k1]at o;cases o;simp[kp,ld,k1];refine⟨λs A=>?_,L,w,q,B⟩;grind
  |O d Q=>
    obtain⟨x,e,a,q⟩:=m;obtain⟨k1,y,j⟩:=t d _ (bH a);simp[kp,ld,y];refine⟨x,e,(cO.1 j).1,λD i z p A=>?_⟩;grind
def bM.sub(e:dx aV k=f ap)(g:dx aV b.t=f ly):∀{z:m Y} {a:m R},bM k b z (qI aV a)->lg (c aV) a=l->bM ap {b with t:=ly} z a
  |[],[],_,_=>trivial
  |[],_::_,d,_=>d.elim
  |_::_,[],d,_=>d.elim
  |o::z,i::j,d,O=>by
    simp[lg]at O;cases h:lV (c aV) i with
    |false=>grind
    |true=>simp[h]at O;exact⟨d.1.sub e g h,bM.sub e g d.2 O⟩
def ez.sub(g:dx aV k=f ap)(h:dx aV b.t=f ly){aa}{a}(i:ez k b aa (pt aV a))(O:pe (c aV) a=l):ez ap {b with t:=ly} aa a:=by
  cases a with
  |Q m=>exact cA.sub g h i O
  |agg j=>obtain⟨z,d,e⟩:=i;exact⟨z,d,e.sub g h O⟩
def eY.sub(e:dx aV k=f ap)(g:dx aV b.t=f ly):∀{z:m Y} {a:m E1},eY k b z (tn aV a)->oj (c aV) a=l->eY ap {b with t:=ly} z a
  |[],[],_,_=>trivial
  |[],_::_,d,_=>d.elim
  |_::_,[],d,_=>d.elim
  |o::z,i::j,d,O=>by
    simp[oj]at O;cases h:pe (c aV) i with
    |false=>grind
    |true=>simp[h]at O;exact⟨d.1.sub e g h,eY.sub e g d.2 O⟩
def bx.sub(e:dx aV k=f ap)(g:dx aV b.t=f ly){aa}{O}(i:bx k b aa (fc aV O))(h:hO (c aV) O=l):bx ap {b with t:=ly} aa O:=by
  cases O with
  |n m=>exact ez.sub e g i h
  |S j=>obtain⟨z,a,d⟩:=i;exact⟨z,a,d.sub e g h⟩
  |any=>trivial
def b4.sub(e:dx aV k=f ap)(g:dx aV b.t=f ly):∀{z:m Y} {a:m y},b4 k b z (gn aV a)->ha (c aV) a=l->b4 ap {b with t:=ly} z a
  |[],[],_,_=>trivial
  |[],_::_,d,_=>d.elim
  |_::_,[],d,_=>d.elim
  |o::z,i::j,d,O=>by
    simp[ha]at O;cases h:hO (c aV) i with
    |false=>grind
    |true=>simp[h]at O;exact⟨d.1.sub e g h,b4.sub e g d.2 O⟩
variable {fe:m aq}{b5:a6}
def bM.cN(p:b5.D=b.D)(o:∀(e:Nat) h,k[e]?=f h->∃g,aV[e]?=f g/\fe[g]?=f h)(j:∀(e:Nat) L,b.t[e]?=f L->∃g,aV[e]?=f g/\b5.t[g]?=f L)(i:c b.t=c k):
    ∀{z:m Y} {d:m R},bM k b z d->bM fe b5 z (qI aV d)
  |[],[],_=>trivial
  |[],_::_,a=>a.elim
  |_::_,[],a=>a.elim
  |_::_,_::_,a=>⟨a.1.cN p o j i,bM.cN p o j i a.2⟩
def ez.cN(p:b5.D=b.D)(o:∀(a:Nat) (i:aq),k[a]?=f i->∃d,aV[a]?=f d/\fe[d]?=f i)(m:∀(a:Nat) (L:Loc),b.t[a]?=f L->∃d,aV[a]?=f d/\b5.t[d]?=f L)(j:c b.t=c k){aa}{h}(q:ez k b aa h):ez fe b5 aa (pt aV h):=by
  cases h with
  |Q s=>exact cA.cN p o m j q
  |agg r=>obtain⟨z,e,g⟩:=q;exact⟨z,e,g.cN p o m j⟩
def eY.cN(p:b5.D=b.D)(o:∀(d:Nat) h,k[d]?=f h->∃e,aV[d]?=f e/\fe[e]?=f h)(j:∀(d:Nat) (L:Loc),b.t[d]?=f L->∃e,aV[d]?=f e/\b5.t[e]?=f L)(i:c b.t=c k):
    ∀{z:m Y} {g:m E1},eY k b z g->eY fe b5 z (tn aV g)
  |[],[],_=>trivial
  |[],_::_,a=>a.elim
  |_::_,[],a=>a.elim
  |_::_,_::_,a=>⟨a.1.cN p o j i,eY.cN p o j i a.2⟩
def bx.cN(p:b5.D=b.D)(o:∀(a:Nat) (i:aq),k[a]?=f i->∃d,aV[a]?=f d/\fe[d]?=f i)(m:∀(a:Nat) (L:Loc),b.t[a]?=f L->∃d,aV[a]?=f d/\b5.t[d]?=f L)(j:c b.t=c k){aa}{e}(q:bx k b aa e):bx fe b5 aa (fc aV e):=by
  cases e with
  |n s=>exact ez.cN p o m j q
  |S r=>obtain⟨z,g,h⟩:=q;exact⟨z,g,h.cN p o m j⟩
  |any=>trivial
end sub
def da.cu{a:Type}:Nat->a->m a->m a
  |_,_,[]=>[]
  |0,d,_::b=>d::b
  |e+1,d,g::b=>g::da.cu e d b
def da{a:Type}:m Nat->m a->m a->m a
  |[],new,old=>old++new
  |d::b,e::new,old=>da b new (da.cu d e old)
  |_::_,[],old=>old
theorem mO{b:Type}:∀d (a:b) (e:m b),da.cu d a e=e.set d a
  |_,_,[]=>by simp[da.cu]
  |0,a,_::g=>by simp[da.cu]
  |d+1,a,h::g=>by simp[da.cu,mO d a g]
def DR{g:Type}:∀{aV:m Nat} {new old:m g},fb aV=l->(∀a∈aV,a<c old)->c aV<=c new ->
    c (da aV new old)=c old+(c new-c aV)/\(∀(b a:Nat),aV[b]?=f a->(da aV new old)[a]?=new[b]?) /\
    (∀b,(da aV new old)[c old+b]?=new[c aV+b]?)/\(∀d,d<c old->d∉aV->(da aV new old)[d]?=old[d]?)
  |[],new,old,_,_,_=>by
    refine⟨by simp[da],by simp,λb=>?_,λd j _=>?_⟩
    · simp[da,gK,cX]
      grind
    · simp[da,j3 j]
  |a::aV,[],old,_,_,o=>by grind
  |a::aV,r::new,old,e,i,t=>by
    have s:=e;simp[fb]at e;cases k:ek a aV with
    |true=>grind
    |false=>
      simp[k]at e;have p:a<c old:=i a D;have u:a∉aV:=λo=>by grind[vy]
      obtain⟨y,w,z,x⟩:=DR (aV:=aV) (new:=new) (old:=old.set a r) e (λq h=>by grind) M;simp[da,mO];grind
def X(k:af P)(i:a0)(args:m y)(h:m aq)(e:y)(b:m aq):Prop:=
  (∃fn,P.funcs[i]?=f fn/\(fn.name== "runtime.NumGoroutine")=v/\fn.body.isNone=v) /\
  ∀g (z:m Y),b4 h g z args->bc h g->∀(j:ai->a6->Prop) d,
    (∀o p a,ma P i o p a->bx b a p e->bc b a->df h g b a->cf k j (G o d) a)->cf k j (G (Frame.enter P i z.toArray .normal) d) g
def bk(o:af P)(j:a0)(args:m y)(i:m aq)(e:ι->y)(b:ι->m aq):Prop:=
  (∃fn,P.funcs[j]?=f fn/\(fn.name== "runtime.NumGoroutine")=v/\fn.body.isNone=v) /\
  ∀h (z:m Y),b4 i h z args->bc i h->∀(k:ai->a6->Prop) d,
    (∀g p q a,ma P j p q a->bx (b g) a q (e g)->bc (b g) a->df i h (b g) a->cf o k (G p d) a)->cf o k (G (Frame.enter P j z.toArray .normal) d) h
def X.tocH{g:af P}{h}{args}{res}(i:X g h args k res ap):bk (ι:=Unit) g h args k (λ_=>res) (λ_=>ap):=
  ⟨i.1,λm z e d j a b=>i.2 m z e d j a (b ())⟩
def bk.toX{g:af P}{h}{args}{res}(i:bk (ι:=Unit) g h args k (λ_=>res) (λ_=>ap)):X g h args k res ap:=
  ⟨i.1,λm z e d j a b=>i.2 m z e d j a (λ_=>b)⟩
def ox(b:a6)(d:m Loc):Nat->Prop:=λa=>b.own a∨((∃L∈b.t,a∈L.ak)/\∀L∈d,a∉L.ak)
def gV(a:Nat):Nat->m Nat
  |0=>[]
  |b+1=>a::gV (a+1) b
def No:∀d b a,(gV b d)[a]?=if a<d then f (b+a)else n
  |0,b,a=>by simp[gV]
  |d+1,b,0=>by simp[gV]
  |d+1,b,a+1=>by simp[gV,nZ,No d (b+1) a,Nat.add_lt_add_iff_right];grind
def frame{aS}{j}{A}(u:bc k b)(P:dx aV k=f dh)(aZ:dx aV b.t=f A)(Z:fb aV=l)(aC:ew aS=l)(D:bc aS j)(i:df dh {b with t:=A,own:=ox b A} aS j)(X:c aV<=c aS){res}(aD:bx aS j aa res):
    ∃b5:a6,b5.a=j.a/\bx (da aV aS k) b5 aa (fc (aV++gV (c k) (c aS-c aV)) res)/\bc (da aV aS k) b5/\df k b (da aV aS k) b5/\b5.D=j.D/\b5.own=b.own/\∀L∈b5.t,L∈j.t∨(L∈b.t/\∀h∈L.ak,∀p∈A,h∉p.ak):=by
  have aQ:∀z∈aV,z<c k:=by intro z y;obtain⟨d,t,rfl⟩:=g4 y;obtain⟨aF,_,a1⟩:=(l4 P).2 d _ (bH t);grind
  have N:∀z∈aV,z<c b.t:=by rw[u.len];omega
  have H:c aV<=c j.t:=by rw[D.len];omega
  obtain⟨an,ao,S,aq⟩:=DR (new:=aS) (old:=k) Z aQ X;obtain⟨T,ar,U,au⟩:=DR (new:=j.t) (old:=b.t) Z N H;obtain⟨a0,av⟩:=l4 P;obtain⟨d1,d2⟩:=l4 aZ;let aj:=aV++gV (c k) (c aS-c aV);have aR:∀d,d<c aS->∃z,aj[d]?=f z/\(da aV aS k)[z]?=aS[d]?/\(da aV j.t b.t)[z]?=j.t[d]?:=by
    intro d t;rcases dT d (c aV) with K|ai
    · refine⟨aV[d],?_,ao d _ (bH K),ar d _ (bH K)⟩
      grind
    · refine⟨c k+(d-c aV),?_,?_,?_⟩
      · simp[aj]
        rw[hl ai,No,bo w]
      · rw[S];grind
      · rw[<-u.len,U];grind
  have I:∀g L,(da aV j.t b.t)[g]?=f L->(∃d,d<c aS/\j.t[d]?=f L/\(∀x,(da aV aS k)[g]?=f x->aS[d]?=f x)/\(∀z,aV[d]?=f z->z=g)/\(d≥c aV->g=c k+(d-c aV))) ∨
      (g<c k/\g∉aV/\b.t[g]?=f L/\(da aV aS k)[g]?=k[g]?):=by
    intro g L m;have aT:g<c (da aV j.t b.t):=(cO.1 m).1;rcases dT g (c k) with K|ai
    · by_cases C:g∈aV
      · obtain⟨d,t,rfl⟩:=g4 C
        have y:=bH t;grind
      · exact .inr ⟨K,C,by rw[<-au g (by rw[u.len];omega) C];exact m,aq g K C⟩
    · rw[T,D.len,u.len]at aT
      refine .inl ⟨c aV+(g-c k),by omega,?_,λx aJ=>?_,λz y=>?_,λ_=>by omega⟩
      · rw[<-U,u.len,AO ai];exact m
      · rw[<-S,AO ai];exact aJ
      grind
  have R:∀L∈A,L∈b.t:=by intro L m;obtain⟨d,t,rfl⟩:=g4 m;have af:d<c aV:=M;obtain⟨aF,aM,Q⟩:=d2 d _ (bH af);grind
  have s:∀g L,g∉aV->b.t[g]?=f L->∀h∈L.ak,h<b.a.heap.size/\∀p∈A,h∉p.ak:=by intro g L F m h o;refine⟨u.lt L (b_ m) h o,λp q r=>?_⟩;obtain⟨d,t,rfl⟩:=g4 q;have af:d<c aV:=M;obtain⟨aF,aM,Q⟩:=d2 d _ (bH af);rw[bH t]at aM;cases aM;have:=u.a1 g aV[d] L _ m Q h o r;grind
  have ab:∀h,h<b.a.heap.size->(∀L∈b.t,h∉L.ak)->∀L∈A,h∉L.ak:=λh _ ah L m=>ah L (R L m);have V:fq k b (da aV aS k) ⟨da aV j.t b.t,j.D,j.a,b.own⟩:=by
    refine⟨i.mem,λg x L aJ m=>?_⟩;have K:g<c k:=(cO.1 aJ).1;by_cases C:g∈aV
    · obtain⟨d,t,rfl⟩:=g4 C
      have y:=bH t;obtain⟨aF,aM,Q⟩:=av d _ y;obtain⟨a9,aG,ae⟩:=d2 d _ y;rw[aJ]at Q;cases Q;rw[m]at ae;cases ae;obtain⟨aP,p,a4,a5,a7⟩:=i.box d x L aM aG;grind
    · exact⟨x,L,by grind,by grind,.refl _ _⟩
  refine⟨⟨da aV j.t b.t,j.D,j.a,b.own⟩,a,?_,⟨D.mem,?_,?_,?_,?_,?_⟩,⟨i.size,?_,i.mem,?_,?_,V.box,i.os,i.tape,i.output,a⟩,a,a,?_⟩
  · refine bx.cN (b:=j) (b5:=⟨da aV j.t b.t,j.D,j.a,b.own⟩) (fe:=da aV aS k) (aV:=aj) a (λd x aJ=>?_) (λd L m=>?_) D.len aD
    · grind
    · obtain⟨z,k1,_,a2⟩:=aR d (by rw[<-D.len];grind)
      grind
  · simp only;rw[an,T,D.len,u.len]
  · intro g x L aJ m
    rcases I g L m with⟨d,t,B,E,_⟩|⟨F,C,q,aW⟩
    · exact ey.plain (k:=aS) (b:=j) (aA:=⟨da aV j.t b.t,j.D,j.a,b.own⟩) a a (vO aC x (b_ (E x aJ))) (D.box d x L (E x aJ) B)
    · rw[aW]at aJ
      refine(u.box g x L aJ q).b_ V u.len λh o=>?_;obtain⟨al,ag⟩:=s g L C q h o;exact⟨i.a3 h (.inr ⟨⟨L,b_ q,o⟩,ag⟩),i.bz h al ag⟩
  · intro g J L p m q h o r
    rcases I g L m with⟨d,t,B,_,aL,aN⟩|⟨F,C,e,_⟩<;>rcases I J p q with⟨aE,af,aH,_,aw,ax⟩|⟨aO,Y,G,_⟩
    · have a8:=D.a1 d aE L p B aH h o r
      grind
    · obtain⟨al,ag⟩:=s J p Y G h r
      rcases i.bR L (b_ B) h o with ah|⟨O,W,aK⟩
      · grind
      grind
    · obtain⟨al,ag⟩:=s g L C e h o
      rcases i.bR p (b_ aH) h r with ah|⟨O,W,aK⟩
      · grind
      grind
    · exact u.a1 g J L p e G h o r
  · intro L m h o
    obtain⟨g,F,rfl⟩:=g4 m;rcases I g _ (bH F)with⟨d,t,B,_⟩|⟨_,_,e,_⟩
    · exact D.lt _ (b_ B) h o
    · have:=u.lt _ (b_ e) h o
      have:=i.size;grind
  · intro h o
    refine⟨?_,λL m aI=>?_⟩
    · have:=(u.own h o).1
      have:=i.size;grind
    · obtain⟨g,F,rfl⟩:=g4 m
      rcases I g _ (bH F)with⟨d,t,B,_⟩|⟨_,_,e,_⟩
      · have az:j.own h:=by rw[i.own];exact .inl o
        exact(D.own h az).2 _ (b_ B) aI
      · exact(u.own h o).2 _ (b_ e) aI
  · intro h o
    exact i.a3 h (.inl o)
  · intro h o aY a3
    exact i.bz h o (ab h o aY) a3
  · intro L m h o
    obtain⟨g,F,rfl⟩:=g4 m;rcases I g _ (bH F)with⟨d,t,B,_⟩|⟨_,_,e,_⟩
    · rcases i.bR _ (b_ B) h o with ah|⟨O,W,aK⟩
      · grind
      grind
    grind
  · intro L m
    obtain⟨g,F,rfl⟩:=g4 m;rcases I g _ (bH F)with⟨d,t,B,_⟩|⟨_,C,e,_⟩
    · grind
    grind
def g1:y->Option (a0×m N)
 |.n (.Q (.c (.fn (.func b) [] a)))=>f (b,a)
 |_=>n
theorem m6{k}{b}{d:ae->Y}{a:ae->y}(e:∀h,bx k b (d h) (a h)):∀g:m ae,b4 k b (g.map d) (g.map a)
 |[]=>trivial
 |j::i=>⟨e j,m6 e i⟩
def b4.append{k}{b}:∀{z e:m Y}{g a:m y},b4 k b z g->b4 k b e a->b4 k b (z++e) (g++a)
 |[],_,[],_,_,d=>d
 |[],_,_::_,_,d,_=>d.elim
 |_::_,_,[],_,d,_=>d.elim
 |_::_,_,_::_,_,d,h=>⟨d.1,b4.append d.2 h⟩
def BM:R->R
 |.x _ b d a=>.c (.B v b d a)
 |.c (.B _ b d a)=>.c (.B v b d a)
 |e=>e
def HI{d}(a:cA k b aa d):cA k b aa (BM d):=by
 cases d with
 |x i h j e=>exact a.1
 |c g=>cases g<;>first|exact a|exact Rd.ei a
 |_=>exact a
def BO:m R->m R
 |[]=>[]
 |a::b=>BM a::BO b
def HK{k}{b}:∀{z:m Y}{d:m R},bM k b z d->bM k b z (BO d)
 |[],[],_=>trivial
 |[],_::_,a=>a.elim
 |_::_,[],a=>a.elim
 |_::_,_::_,a=>⟨HI a.1,HK a.2⟩
def BN:y->y
 |.n (.Q b)=>.n (.Q (BM b))
 |.n (.agg a)=>.n (.agg (BO a))
 |d=>d
def HJ{a}(d:bx k b aa a):bx k b aa (BN a):=by
 cases a with
 |n i=>cases i with
  |Q m=>exact HI d
  |agg h=>obtain⟨z,e,g⟩:=d;exact⟨z,e,HK g⟩
 |S j=>exact d
 |any=>trivial
def k5:m y->m y
 |[]=>[]
 |a::b=>BN a::k5 b
theorem uS{k}{b}:∀{z:m Y}{d:m y},b4 k b z d->b4 k b z (k5 d)
 |[],[],_=>trivial
 |[],_::_,a=>a.elim
 |_::_,[],a=>a.elim
 |_::_,_::_,a=>⟨HJ a.1,uS a.2⟩
def e':m N->m y
 |[]=>[]
 |a::b=>ax a::e' b
theorem qc{k}{b}:∀{z:m Y}{a:m N},(∀(g:Nat)d,a[g]?=f d->∃h,z[g]?=f h/\Rd b.D h d)->c z=c a->b4 k b z (e' a)
 |[],[],_,_=>trivial
 |[],_::_,_,e=>by grind
 |_::_,[],_,e=>by grind
 |h::z,d::a,e,p=>by obtain⟨q,i,j⟩:=e 0 d rfl;simp at i;subst i;exact⟨j,qc (λg d o=>by simpa using e (g+1) d M) M⟩
def D_{a b:m α}(h:dx aV a=f b):∀d∈b,d∈a:=by intro d g;obtain⟨k,e⟩:=l4 h;obtain⟨i,j,rfl⟩:=g4 g;obtain⟨q,o,p⟩:=e i _ (bH w);grind
def bc.sub{m}(h:bc k b)(E:dx aV k=f dh)(O:dx aV b.t=f m)(J:ew dh=l)(t:fb aV=l):
  bc dh {b with t:=m,own:=ox b m}/\e2 b {b with t:=m,own:=ox b m}:=by
 obtain⟨B,s⟩:=l4 E;obtain⟨d1,d2⟩:=l4 O;have y:∀L∈m,L∈b.t:=D_ O;refine⟨⟨h.mem,by grind,?_,?_,?_,?_⟩,⟨a,λ_ _ _ D=>D,λ_ _ _=>rfl,h.mem,?_⟩⟩
 .intro u x L aJ d;have j:u<c aV:=M;obtain⟨R,A,K⟩:=s u _ (bH j);obtain⟨N,p,w⟩:=d2 u _ (bH j);rw[aJ]at A;cases A;simp only at d;rw[d]at p;cases p;exact ey.plain (k:=k) (b:=b) (aA:={b with t:=m,own:=ox b m}) rfl rfl (vO J x (b_ aJ)) (h.box _ x L K w)
 .intro u C L r d o i g q;simp only at d o;have j:u<c aV:=M;have F:C<c aV:=M;obtain⟨N,p,w⟩:=d2 u _ (bH j);obtain⟨Q,z,I⟩:=d2 C _ (bH F);rw[d]at p;cases p;rw[o]at z;cases z;have:=h.a1 _ _ L r w I i g q;exact KY t u C aV[u] (bH j) M
 .intro L d i g;exact h.lt _ (y L d) i g
 .rintro i (g|⟨⟨L,d,g⟩,e⟩)
  .exact⟨(h.own i g).1,λL d=>(h.own i g).2 L (y L d)⟩
  exact⟨h.lt L d i g,e⟩
 rintro i ((g|⟨⟨L,d,g⟩,_⟩)|⟨L,d,g⟩)
 .grind
 .grind
 grind
def e2.cO{aS}{s b5}{i}(u:bc k b)(j:bc aS s)(g:df dh {b with t:=i,own:=ox b i} aS s)(r:b5.a=s.a)(o:b5.D=s.D)(w:b5.own=b.own)(q:∀L∈b5.t,L∈s.t∨(L∈b.t/\∀a∈L.ak,∀h∈i,a∉h.ak)):e2 s b5:=by
 refine⟨r,λa m p e=>by grind,λa _ m=>by rw[o],λa m p e=>by rw[o]at e;exact j.mem a m p e,?_⟩;rintro a (d|⟨L,x,d⟩)
 .left;rw[g.own];exact .inl M
 rcases q L x with e|⟨e,t⟩
 .grind
 left;rw[g.own];exact .inr ⟨⟨L,e,d⟩,t a d⟩
def A2{u:af P}{i:aG}{h}{x}{bq}{V}(I:i.kind≠.early)(p:aQ[e]?=f r)(M:aP r (yielded aQ x.tmps)=l)(T:bc k b)(aD:∀A,(ab x.eval r).run P A=.ok (.enter V z.toArray) A)(R:∀A,(ab x.eval r).events P A #[]=#[])(ai:bk u V cQ dh res aS)(av:b4 k b z (gn aV cQ))(aM:ha (c aV) cQ=l)(w:dx aV k=f dh)(K:ew dh=l)(Z:∀d,ew (aS d)=l)(U:fb aV=l)(aq:∀d,c aV<=c (aS d))(E:∀d t aA,bx (da aV (aS d) k) aA t (fc (aV++gV (c k) (c (aS d)-c aV)) (res d))->bc (da aV (aS d) k) aA->df k b (da aV (aS d) k) aA->cf u br (G (i.ab (x.put r.dst t) (.inRegion aQ bq::h)) ah) aA):
  cf u br (G (i.ab x (.inRegion aQ (e::bq)::h)) ah) b:=by
 obtain⟨_,az⟩:=ai;refine .next a λj an=>?_;have C:=u.bH an;have o:=T.rely C;obtain⟨D,O⟩:=vW (kL:=j.t) w o.len;obtain⟨y,ao⟩:=o.sub w O K U;have au:=av.mono C.aU.ext T.len;have N:=(au.sub (b:=j) w O aM).mono (k:=dh) (b:={j with t:=D}) (ap:=dh) (aA:={j with t:=D,own:=ox j D}) ⟨λ_ _ _ E=>E,λaE Y L aJ F=>⟨Y,L,aJ,F,.refl _ _⟩⟩ y.len;refine⟨_,j,_,tw p M I (aD j.a),?_,.aP ao (az _ z N y br _ λd ar t aw J m g q=>?_)⟩
 .refine⟨⟨k,k,o,o,.refl _ _⟩,du.seen ?_⟩;rw[R];exact .nil
 refine uG (ah:=ah) (s:=i.ab x (.inRegion aQ (e::bq)::h)) g J λax Q=>?_;have X:=g.rely Q;have W:=q.trans Q.aU;obtain⟨S,ae,aa,al,H,ag,aj,aC⟩:=frame o w O U (Z d) X W (aq d) (m.mono Q.aU.ext g.len);refine .aP (e2.cO o X W ae ag aj aC) ?_;have B:=qk (i:=i) (x:=x) (h:=h) aQ e bq t;rw[p]at B;simp[nX]at B;rw[B];exact E d t S aa al (C.aU.trans H)
def Gx{i:af P}{j:aG}{h}{d}{bq}{aS}{o}{res}(F:j.kind≠.early)(m:aQ[e]?=f r)(C:aP r (yielded aQ d.tmps)=l)(E:bc k b)(t:∀g,(ab d.eval r).run P g=.ok (.enter o z.toArray) g)(s:∀g,(ab d.eval r).events P g #[]=#[])(B:X i o cQ dh res aS)(q:b4 k b z (gn aV cQ))(x:ha (c aV) cQ=l)(y:dx aV k=f dh)(D:ew dh=l)(u:ew aS=l)(I:fb aV=l)(A:c aV<=c aS)(w:∀p a,bx (da aV aS k) a p (fc (aV++gV (c k) (c aS-c aV)) res)->bc (da aV aS k) a->df k b (da aV aS k) a->cf i br (G (j.ab (d.put r.dst p) (.inRegion aQ bq::h)) ah) a):
  cf i br (G (j.ab d (.inRegion aQ (e::bq)::h)) ah) b:=
 A2 F m C E t s B.tocH q x y D (λ_=>u) I (λ_=>A) (λ_=>w)
theorem mM(b:r.op=.call {callee:=.value cP,args:=ag,argTypes:=dr}){d}{fn}(h:P.funcs[d]?=f fn)(m:(fn.name== "runtime.NumGoroutine")=v)(k:fn.body.isNone=v){a:Act}{ah}(i:a.eval cP=.func (.func d) #[] ah.toArray)(p):
  (ab a.eval r).run P p=.ok (.enter d (ag.toList.map a.eval++ah).toArray) p/\(ab a.eval r).events P p #[]=#[]:=by
 have j:(ag.map a.eval++ah.toArray)=(ag.toList.map a.eval++ah).toArray:=M;have g:fn.name≠ "runtime.NumGoroutine":=M;have e:fn.body≠n:=M;constructor
 .simp[ab,b,resolve,i,Deferred.ofValue,invoke,callFunc,h,g,e,j]
 simp[ab,b,resolve,i,Deferred.ofValue,invoke,callFunc,h,g,e]
def ff.eW{A:af P}{aM:bJ->m aq->Prop}(aw:∀k h j,b0 E k h I j->aP r (yielded all.toArray j.tmps)=l)(t:r.op=.call {callee:=.value cP,args:=ag,argTypes:=dr}){ab:a0}(x:g1 (bD I cP)=f (ab,cap))(b:m Nat)(aj:bk A ab cQ dh res aS)(aI:∀h z,b4 k h z (ag.toList.map (bD I)++e' cap)->b4 k h z (gn b cQ))(y:ha (c b) cQ=l)(ar:dx b k=f dh)(L:ew dh=l)(R:∀d,ew (aS d)=l)(V:fb b=l)(au:∀d,c b<=c (aS d))(D)(av:r.dst=D)(az:∀w,D=f w->w<E)(aH:∀d,ff A E all bq aM (ga D (fc (b++gV (c k) (c (aS d)-c b)) (res d)) I) (da b (aS d) k)):ff A E all (r::bq) aM I k:=by
 subst av;intro h j o g aC X C aA idx p a Q;cases idx with
 |nil=>exact a.elim
 |cons aQ idx=>
 obtain⟨S,a⟩:=a;have al:=eF o cP;unfold g1 at x;split at x
 case h_2=>cases x
 case h_1 u7 uT he=>
  cases x;rw[he]at al;have ah:=b7 al;generalize H:j.eval cP=aF at ah;cases ah with
  |fn J e U s aE F aG K aL Y=>
   have N:J=[]:=jC U;subst N;have aJ:b4 k h e (e' cap):=qc (λd aD T=>⟨F d,K d M,Y d aD T⟩) s;have aN:b4 k h (ag.toList.map j.eval++e) (gn b cQ):=by exact aI _ _ ((m6 (eF o) ag.toList).append aJ)
   obtain⟨fn,an,ai,ae⟩:=aj.1;refine A2 p S (aw _ _ _ o) g (λaa=>(mM t an ai ae H aa).1) (λaa=>(mM t an ai ae H aa).2) aj aN y ar L R V au λd aR Z W q i=>?_;refine aH d Z _ ?_ q aC X C aA idx p a λG ao ax B aK f3 O u=>Q G ao ax B aK f3 O (i.trans u);cases aO:r.dst with
   |none=>exact o.mono i g.len
   |some w=>exact(o.mono i g.len).put (az w aO) W
def ff.gL{d:af P}{aM:bJ->m aq->Prop}(B:∀k j h,b0 E k j I h->aP r (yielded all.toArray h.tmps)=l)(g:r.op=.call {callee:=.value cP,args:=ag,argTypes:=dr}){i}(A:g1 (bD I cP)=f (i,cap))(aV)(w:bk d i cQ dh res aS)(D:k5 (ag.toList.map (bD I)++e' cap)=gn aV cQ)(q:ha (c aV) cQ=l)(s:dx aV k=f dh)(x:ew dh=l)(p:∀a,ew (aS a)=l)(e:fb aV=l)(t:∀a,c aV<=c (aS a))(b)(y:r.dst=b)(C:∀o,b=f o->o<E)(u:∀a,ff d E all bq aM (ga b (fc (aV++gV (c k) (c (aS a)-c aV)) (res a)) I) (da aV (aS a) k)):ff d E all (r::bq) aM I k:=
 ff.eW B g A aV w (λj z F=>by grind[uS]) q s x p e t b y C u
theorem ff.call{b:af P}{aM:bJ->m aq->Prop}(z:∀k B g,b0 E k B I g->aP r (yielded all.toArray g.tmps)=l)(e:r.op=.call {callee:=.value cP,args:=ag,argTypes:=dr}){h}(y:g1 (bD I cP)=f (h,cap))(aV){aS}{res}(t:X b h cQ dh res aS)(j:k5 (ag.toList.map (bD I)++e' cap)=gn aV cQ)(p:ha (c aV) cQ=l)(q:dx aV k=f dh)(u:ew dh=l)(o:ew aS=l)(d:fb aV=l)(s:c aV<=c aS)(a)(x:r.dst=a)(A:∀i,a=f i->i<E)(w:ff b E all bq aM (ga a (fc (aV++gV (c k) (c aS-c aV)) res) I) (da aV aS k)):ff b E all (r::bq) aM I k:=
 ff.gL z e y aV t.tocH j p q u (λ_=>o) d (λ_=>s) a x A (λ_=>w)
def nT.range(all):nT all (aB all.toArray.size) all:=by
 have key:∀a j,(∀u r,a[u]?=f r->all[j+u]?=f r)->nT all (List.range' j (c a)) a:=by
  intro a;induction a with
  |nil=>intro j _;trivial
  |cons r a' x=>
   exact Qw
 grind[List.range_eq_range']
theorem b3.region{q:af P}{aM}{id}(z:ff q E aQ.toList aQ.toList (λI k=>aM .normal I k) I k):b3 q E (.region id aQ v) aM I k:=by intro C s y d t A i r m j;refine .ctl d a (λ_=>zi) λw b=>?_;have:=z w s (y.rely b d) (d.rely b) t A i r (aB aQ.size) m (by simpa using nT.range aQ.toList) λe g o h B u x p=>j .normal e g o h B u x (b.aU.trans p);omega
def ff.nil{P:aE}{d:af P}{E}{all}{aM:bJ->m aq->Prop}{I}{k}(p:aM I k):ff d E all [] aM I k:=by
 intro u e o b r t h q idx _ g i;cases idx with
 |cons s idx=>exact g.elim
 |nil=>exact .ctl b rfl (λ_=>vX) λj a=>i I k j e p (o.rely a b) (b.rely a) a.aU
def ff.mono{p:af P}{aM q:bJ->m aq->Prop}(z:ff p E all bq aM I k)(y:∀I k,aM I k->q I k):ff p E all bq q I k:=
 λb s x i t A e r idx h j g=>z b s x i t A e r idx h j λa ap aA d B u w o=>g a ap aA d (y _ _ B) u w o
def ff.le{P:aE}{i:af P}{E}{all bq}{aM:bJ->m aq->Prop}{I dD}{k}(r:ff i E all bq aM dD k)(h:iB I dD):ff i E all bq aM I k:=
 λt o q e p s a j idx d g b=>r t o (q.le h) e p s a j idx d g b
def h2:Nat->m y->bJ
 |_,[]=>[]
 |a,b::d=>(a,b)::h2 (a+1) d
def yB:∀d(a b:Nat),look (h2 a d) b=if a<=b then(d[b-a]?).getD .any else .any
 |[],a,b=>by simp[h2,look]
 |g::e,a,b=>by
  simp only[h2,look];by_cases h:a=b
  .grind [Nat.beq_refl]
  have:ad a b=v:=tZ;rw[this];simp[cond,yB e (a+1) b];grind
theorem b4.get{k}{b}:∀{z:m Y}{a:m y},b4 k b z a->c z=c a/\∀(u:Nat),bx k b ((z[u]?).getD J) ((a[u]?).getD .any)
 |[],[],_=>⟨rfl,λu=>by simp[bx]⟩
 |[],_::_,d=>d.elim
 |_::_,[],d=>d.elim
 |i::z,h::a,d=>by
  obtain⟨e,g⟩:=b4.get d.2;refine⟨by grind,λu=>?_⟩;cases u with
  |zero=>simpa using d.1
  |succ u=>grind
def oz(a:bJ):m ResultVar->Option (m y)
 |[]=>f []
 |.tmp e::d=>match oz a d with
  |some b=>f (look a e::b)
  |none=>n
 |.cell _ _::_=>n
def qO:m y->Option (m E1)
 |[]=>f []
 |.n d::b=>match qO b with
  |some a=>f (d::a)
  |none=>n
 |_::_=>n
def pf:m y->Option y
 |[d]=>f d
 |a=>match qO a with
  |some b=>f (.S b)
  |none=>n
def ib(d:Act):ResultVar->Sem Y
 |ResultVar.tmp b=>pure (d.tmps.getD b J)
 |ResultVar.cell a b=>do loadVar b (<-asAddr (d.tmps.getD a J))
def L0(P){E}{k}{b}{I}{g}(j:b0 E k b I g):∀{e:m ResultVar}{a:m y},oz I e=f a ->
  ∃z,(∀p,(e.mapM (ib g)).run P p=Result.ok z p)/\b4 k b z a/\dz P (e.mapM (ib g))
 |[],a,d=>by cases d;exact⟨[],by simp,B,by rw[List.mapM_nil];exact .pure⟩
 |.tmp h::o,a,d=>by
  simp[oz]at d;cases i:oz I o with
  |none=>grind
  |some u=>
   simp[i]at d;subst d;obtain⟨z,r,s,t⟩:=L0 P j i;refine⟨g.tmps.getD h J::z,?_,⟨j.aL h,s⟩,?_⟩
   .intro p;simp[oY,cJ,ib,dY,c8,r]
   rw[oY];exact .bind .pure λ_=>.bind t λ_=>.pure
 |.cell q h::o,a,d=>by simp[oz]at d
def M'{k}{b}:∀{z:m Y}{e:m y}{a:m E1},qO e=f a->b4 k b z e->eY k b z a
 |[],[],a,d,_=>by cases d;trivial
 |[],_::_,_,_,d=>d.elim
 |_::_,[],_,_,d=>d.elim
 |o::z,.n p::i,a,d,h=>by
  simp[qO]at d;cases g:qO i with
  |none=>grind
  |some j=>simp[g]at d;subst d;exact⟨h.1,M' g h.2⟩
 |_::_,.S _::_,a,d,_=>by simp[qO]at d
 |_::_,.any::_,a,d,_=>by simp[qO]at d
def Kj{bh}{h}(d:pf bh=f h)(e:b4 k b z bh):bx k b (if d:c z=1 then z[0]else .tuple z.toArray) h:=by
 unfold pf at d;split at d
 .rename_i C;cases d
  match z,e with
  |[p],e=>simpa using e.1
 rename_i o;cases g:qO bh with
 |none=>grind
 |some j=>
  simp[g]at d;subst d;have m:c z≠1:=by
   intro i;rw[(b4.get e).1]at i
   match bh,i with
   |[q],_=>grind
  rw[dif_neg m];exact⟨z,a,M' g e⟩
def oQ(P:aE)(fn:Func)(k:bJ)(p:y):Prop:=∀{o:Nat}{i:m aq}{d:a6}{h:Act},b0 o i d k h->∃j,bx i d j p/\∀g,(∀a b e,d.D a b=f e->g.cell? ⟨a,b,n⟩=f e)->(results fn h.tmps).run P g=.ok j g/\∀q∈(results fn h.tmps).events P g #[],∃a b e,q=⟨.cell ⟨a,b,n⟩,v,v⟩/\d.D a b=f e
def L'{a}(m:b0 E k b I a){fn}{bh}{g}(p:oz I fn.results.toList=f bh)(i:pf bh=f g):
  ∃h,(∀d,(results fn a.tmps).run P d=.ok h d)/\bx k b h g/\dz P (results fn a.tmps):=by
 obtain⟨z,r,j,o⟩:=L0 P m p;refine⟨_,λd=>?_,Kj i j,?_⟩
 .have e:(fn.results.mapM (ib a)).run P d=Result.ok z.toArray d:=Rt;unfold results;rw[cJ];refine(eD (λq=>Result.andThen q _) (Eq.trans ?_ e)).trans ?_
  .congr 2
  simp
 unfold results;have e:dz P (fn.results.mapM (ib a)):=by rw[w7];exact .map o
 exact .bind e λ_=>.pure
def oQ.of{fn}{bh}{e}(k:oz I fn.results.toList=f bh)(d:pf bh=f e):oQ P fn I e:=by intro o p s q j;obtain⟨m,a,b,i⟩:=L' (P:=P) j k d;exact⟨m,b,λg _=>⟨a g,λr h=>by rw[i g #[]]at h;grind⟩⟩
section
def bc.dY(a:bc k b):bc (k.map λ_=>.M) b:=by
 refine⟨a.mem,by simp[a.len],λg h L aJ e=>?_,a.a1,a.lt,a.own⟩;simp only[m']at aJ;cases d:k[g]? with
 |none=>grind
 |some i=>rw[d]at aJ;cases aJ;trivial
structure pU(nC:m Nat)(b aA:a6):Prop where
 t:aA.t=b.t
 D:aA.D=b.D
 own:aA.own=b.own
 size:b.a.heap.size<=aA.a.heap.size
 a3:∀i,(b.own i∨∃(d:Nat) (L:Loc),b.t[d]?=f L/\d∉nC/\i∈L.ak)->aA.a.heap[i]?=b.a.heap[i]?
 mem:∀i r aa,b.D i r=f aa->aA.a.cell? ⟨i,r,n⟩=f aa
 os:aA.a.os=b.a.os
 tape:aA.a.tape=b.a.tape
 output:aA.a.output=b.a.output
def cV.j6(a:cV b aA)(nC):pU nC b aA:=
 ⟨a.t,a.D,a.own,a.size,λh e=>a.a3 h (e.imp id λ⟨i,L,d,_,g⟩=>⟨L,b_ d,g⟩),a.mem,a.os,a.tape,a.output⟩
theorem pU.X{nC}{m b5}(a:pU [d] b m)(e:pU nC m b5):pU (d::nC) b b5:=by refine⟨e.t.trans a.t,e.D.trans a.D,e.own.trans a.own,fQ a.size e.size,λg j=>?_,λg q r o=>e.mem g q r (by rw[a.D];exact o),e.os.trans a.os,e.tape.trans a.tape,e.output.trans a.output⟩;rw[e.a3 g,a.a3 g (j.imp id λ⟨k,L,h,i,p⟩=>⟨k,L,h,λs=>i M,p⟩)];rw[a.own,a.t];grind
def abB{b}(d:p.heap[b]?=f (.deferred (f []))):
  (Instr.takeDeferred b).run P p=.ok [] {p with heap:=p.heap.setIfInBounds b (.deferred n)}/\(Instr.takeDeferred b).events P p #[]=#[⟨.obj b,v,v⟩,⟨.obj b,l,v⟩]:=by
 have e:(getObj b).run P p=.ok (.deferred (f [])) p:=by simp[getObj,Sem.run,d]
 have g:(setObj b (.deferred n)).run P p=.ok () {p with heap:=p.heap.setIfInBounds b (.deferred n)}:=by simp[setObj,Sem.run,d]
 have i:∀a,(getObj b).events P p a=a.push ⟨.obj b,v,v⟩:=λa=>by simp only[getObj,Sem.events,Sem.runT,d];rfl
 have h:∀a,(setObj b (.deferred n)).events P p a=a.push ⟨.obj b,l,v⟩:=λa=>by simp[setObj,Sem.events,Sem.runT,d];rfl
 constructor
 .simp[Instr.takeDeferred,e,g]
 simp[Instr.takeDeferred,e,i,h]
variable {q:af P}{eU:Bool}
def abS{a}{b}{bh}(e:a.mode=.returning)(d:a.defers={target:=.collected b,args:=#[]}::bh)(h:p.heap[b]?=f (.deferred (f []))):
  ao P eU (G a ah) p=.go (G {a with defers:=bh} ah) {p with heap:=p.heap.setIfInBounds b (.deferred n)} (seen P a.fn #[⟨.obj b,v,v⟩,⟨.obj b,l,v⟩]):=by obtain⟨i,g⟩:=abB (P:=P) h;simp[G,ao,unwind,e,d,i,g,GStep.after]
def ra(d:a6):m Deferred->m Nat->Prop
 |[],[]=>True
 |h::e,g::a=>(∃b:Nat,d.t[g]?=f ⟨.int .i64 b,[b]⟩/\d.a.heap[b]?=f (.deferred (f []))/\(∀i,d.D b i=n)/\h={target:=.collected b,args:=#[]})/\g∉a/\ra d e a
 |_,_=>False
def i_.gD{k}{b}(g:bc k b):∀{a:m Deferred}{d:m Nat},i_ k b a d->ra b a d
 |[],[],_=>trivial
 |[],_::_,h=>h.elim
 |_::_,[],h=>h.elim
 |y::a,x::d,⟨⟨j,L,h,e,u,s⟩,t,o⟩=>by obtain⟨i,k1,p,q⟩:=g.box x _ L j e;subst k1;simp at u;have r:i=h:=w;subst r;exact⟨⟨i,e,p,q,s⟩,t,i_.gD g o⟩
def ra.mono{b aA}{i}(h:pU [i] b aA):∀{d:m Deferred}{a:m Nat},i∉a->ra b d a->ra aA d a
 |[],[],_,_=>trivial
 |[],_::_,_,e=>e.elim
 |_::_,[],_,e=>e.elim
 |s::d,r::a,k,⟨⟨e,g,j,t,p⟩,q,o⟩=>by simp[e9,not_or]at k;refine⟨⟨e,by rw[h.t];exact g,by rw[h.a3 e (.inr ⟨r,_,g,by grind,by simp⟩)];exact j,λu=>by rw[h.D];grind,p⟩,q,ra.mono h k.2 o⟩
def A3:∀o(g:aG)(s:a6)i,bc i s->(∀C∈i,C=.M)->g.mode=.returning->ra s g.defers o ->
  (∀r,pU o s r->cf q br (G {g with defers:=[]} ah) r)->cf q br (G g ah) s
 |[],g,s,i,J,W,O,x,U=>by
  have A:g.defers=[]:=by
   cases A:g.defers with
   |nil=>rfl
   |cons an E=>rw[A]at x;exact x.elim
  have:=U s ((cV.refl J).j6 _);have aq:{g with defers:=[]}=g:=by cases g;simp_all
  grind
 |V::o,g,s,i,J,W,O,x,U=>by
  cases A:g.defers with
  |nil=>rw[A]at x;exact x.elim
  |cons an E=>
   rw[A]at x;obtain⟨⟨k,K,H,aM,ai⟩,aj,al⟩:=x;subst ai;refine .next a λj y=>?_;have h:=q.bH y;have u:=J.rely h;have N:j.t[V]?=f ⟨.int .i64 k,[k]⟩:=by rw[h.t];exact K
   have R:j.a.heap[k]?=f (.deferred (f [])):=by rw[h.a3 k (.inr ⟨_,b_ K,by simp⟩)];exact H
   have ao:∀p,j.D k p=n:=λp=>by rw[h.D];grind
   let d:a6:={j with a:={j.a with heap:=j.a.heap.setIfInBounds k (.deferred n)}}
   have F:∀b,b≠k->d.a.heap[b]?=j.a.heap[b]?:=λb e=>by grind
   have aa:∀b p B,j.D b p=f B->d.a.cell? ⟨b,p,n⟩=f B:=by intro b p B Q;have ab:b≠k:=M;rw[<-u.mem b p B Q];simp[aH];grind
   have ae:bc i d:=by
    refine⟨aa,u.len,λw C L aJ m=>?_,u.a1,λL m b e=>?_,λb e=>⟨?_,(u.own b e).2⟩⟩
    .rw[W C (b_ aJ)];trivial
    .have:=u.lt L m b e;grind
    have:=(u.own b e).1;grind
   have af:∃L∈j.t,k∈L.ak:=⟨_,b_ N,by simp⟩
   have Y:cN i j i d:=by refine⟨by grind,λb _ e=>F b ?_,λ_ _ _ S=>S,λ_ _ _ _=>rfl,λL m b e=>.inr ⟨L,m,e⟩,λ_ C L S ag=>⟨C,L,S,ag,.refl _ _⟩,rfl,rfl,rfl,rfl⟩;grind
   have I:pU [V] s d:=by
    refine⟨h.t,h.D,h.own,fQ h.size M,λb e=>?_,λb p B Q=>aa b p B (by rw[h.D];exact Q),h.os,h.tape,h.output⟩;have ab:b≠k:=by
     rintro rfl;rcases e with e|⟨w,t,Z,X,z⟩
     .exact(J.own b e).2 _ (b_ K) D
     exact X (by simp;exact J.a1 w V t _ Z K b z D)
    rw[F b ab];exact h.a3 b (e.imp id λ⟨w,t,Z,_,z⟩=>⟨t,b_ Z,z⟩)
   refine⟨_,d,_,abS O A R,⟨⟨i,i,u,ae,Y⟩,du.seen (.fh ?_ ?_)⟩,?_⟩
   .exact⟨a,.inr af⟩
   .exact⟨a,.inr af⟩
   refine A3 o {g with defers:=E} d i ae W O (al.mono I aj) λr T=>?_;exact U r (I.X T)
end
def bs(e:Nat)(b d:Nat->m N):Prop:=∀a,a<e->b a=d a
def eX.cA{h}{dG:Nat->m N}(d:eX bB h j V z)(g:bs j V dG):eX bB h j dG z:=
 ⟨d.len,λb a=>by rw[<-g b a];exact d.bF b a,λb a k i e=>d.rd b a k i (by rw[g b a];exact e)⟩
def Dc:N->N->Option (m Prop)
 |.int j e,.int b a=>match s0 j b with|true=>f [e=a]|false=>n
 |.bool r,.bool h=>f [r=h]
 |.T s,.T k=>f [s=k]
 |.B q j e i,.B g b a d=>match ad j b with
  |true=>match q,g with
   |false,l=>n
   |_,_=>f [e=a,bs e i d]
  |false=>match q,g with
   |true,_=>f [e=0,a=0]
   |_,_=>n
 |.val o,.val p=>f [o=p]
 |o,p=>f [o=p]
def Kp{F k}(a:Dc F k=f Z)(g:U Z)(e:Rd bB aa F):Rd bB aa k:=by
 unfold Dc at a;split at a
 .rename_i h j i d;cases b:s0 h i<;>simp[b]at a
  subst a;cases C9 b;cases(show j=d from g);exact e
 .cases a;rename_i m p;cases(show m=p from g);exact e
 .cases a;rename_i m p;cases(show m=p from g);exact e
 .rename_i o h j V q i d dG;cases b:ad h i with
  |true=>
   simp[b]at a;have t:=dn b;subst t;cases o<;>cases q<;>simp at a
   all_goals (subst a;obtain⟨rfl,s⟩:=(show j=d/\bs j V dG from g);first|exact e.cA s|exact e.ei.cA s)
  |false=>
   simp[b]at a;cases o<;>simp at a
   subst a;obtain⟨rfl,rfl⟩:=(show j=0/\d=0 from g)
   obtain⟨u,r,z,rfl,_,_,w,_⟩:=e.bZ;grind[Rd.dJ]
 .cases a;rename_i F k;cases(show F=k from g);exact e
 cases a;cases g;exact e
def vq:R->R->Option (m Prop)
 |.c r,.c s=>Dc r s
 |.x _ j i d,.c (.B v e h b)=>match ad j e with|true=>f [i=h,bs i d b]|false=>n
 |.x g j i d,.x a e h b=>match ad g a with
  |true=>match ad j e with|true=>f [i=h,bs i d b]|false=>n
  |false=>n
 |.ptr g p,.ptr a k=>match ad g a with|true=>(match ad p k with|true=>f []|false=>n)|false=>n
 |.aM g,.aM a=>match ad g a with|true=>f []|false=>n
 |.O g q,.O a o=>match ad g a with|true=>f [q=o]|false=>n
 |_,.any=>f []
 |_,_=>n
def Kn{w x}(e:vq w x=f Z)(r:U Z)(o:cA k b aa w):cA k b aa x:=by
 unfold vq at e;split at e
 .exact Kp e r o
 .rename_i h j V g m dG;cases a:ad h g<;>simp[a]at e
  subst e;have u:=dn a;subst u;obtain⟨rfl,s⟩:=(show j=m/\bs j V dG from r)
  exact o.1.cA s
 .rename_i d h j V i g m dG;cases q:ad d i<;>simp[q]at e
  cases a:ad h g<;>simp[a]at e
  subst e;have u:=dn a;have t:=dn q;subst u t;obtain⟨rfl,s⟩:=(show j=m/\bs j V dG from r)
  exact⟨o.1.cA s,o.2.1,o.2.2⟩
 .grind [Nat.eq_of_beq_eq_true]
 .grind [Nat.eq_of_beq_eq_true]
 .rename_i d p i bi;cases q:ad d i<;>simp[q]at e
  have t:=dn q;subst t;subst e;cases(show p=bi from r);exact o
 .exact cA.cell o
 grind
def gM:m Prop->m Prop->m Prop
 |[],a=>a
 |b::d,a=>b::gM d a
@[simp] theorem U.X{a b}:U (gM a b)↔U a/\U b:=by
 induction a with
 |nil=>simp[gM]
 |cons g e d=>simp[gM,U.cons,d,and_assoc]
def qw:m R->m R->Option (m Prop)
 |[],[]=>f []
 |d::a,e::b=>match vq d e with
  |some g=>match qw a b with
   |some h=>f (gM g h)
   |none=>n
  |none=>n
 |_,_=>n
def Dd{k}{b}:∀{z:m Y}{e g:m R}{d:m Prop},qw e g=f d->U d->bM k b z e->bM k b z g
 |[],[],[],_,_,_,_=>trivial
 |_::_,[],_,_,_,_,a=>a.elim
 |[],_::_,_,_,_,_,a=>a.elim
 |[],[],_::_,_,a,_,_=>by simp[qw]at a
 |_::_,_::_,[],_,a,_,_=>by simp[qw]at a
 |w::z,r::h,s::i,d,a,j,q=>by
  simp[qw]at a;cases o:vq r s with
  |none=>grind
  |some t=>
   cases p:qw h i with
   |none=>grind
   |some u=>
    simp[o,p]at a;subst a;rw[U.X]at j;exact⟨Kn o j.1 q.1,Dd p j.2 q.2⟩
def vr:E1->E1->Option (m Prop)
 |.Q d,.Q e=>vq d e
 |.agg a,.agg b=>qw a b
 |_,_=>n
def Kq{d e}(a:vr d e=f Z)(g:U Z)(h:ez k b aa d):ez k b aa e:=by
 cases d<;>cases e<;>simp[vr,reduceCtorEq]at a
 .exact Kn a g h
 obtain⟨z,i,j⟩:=h;exact⟨z,i,Dd a g j⟩
def rN:m E1->m E1->Option (m Prop)
 |[],[]=>f []
 |d::a,e::b=>match vr d e with
  |some g=>match rN a b with
   |some h=>f (gM g h)
   |none=>n
  |none=>n
 |_,_=>n
def Kr{k}{b}:∀{z:m Y}{e g:m E1}{d:m Prop},rN e g=f d->U d->eY k b z e->eY k b z g
 |[],[],[],_,_,_,_=>trivial
 |_::_,[],_,_,_,_,a=>a.elim
 |[],_::_,_,_,_,_,a=>a.elim
 |[],[],_::_,_,a,_,_=>by simp[rN]at a
 |_::_,_::_,[],_,a,_,_=>by simp[rN]at a
 |w::z,r::h,s::i,d,a,j,q=>by
  simp[rN]at a;cases o:vr r s with
  |none=>grind
  |some t=>
   cases p:rN h i with
   |none=>grind
   |some u=>
    simp[o,p]at a;subst a;rw[U.X]at j;exact⟨Kq o j.1 q.1,Kr p j.2 q.2⟩
def kj:y->y->Option (m Prop)
 |.n d,.n e=>vr d e
 |.S a,.S b=>rN a b
 |_,.any=>f []
 |_,_=>n
theorem pj{d e}(a:kj d e=f Z)(g:U Z)(h:bx k b aa d):bx k b aa e:=by
 cases d<;>cases e<;>simp[kj,reduceCtorEq]at a
 .exact Kq a g h
 .trivial
 .obtain⟨z,i,s⟩:=h;exact⟨z,i,Kr a g s⟩
 .trivial
 trivial
def iX(a:bJ):bJ->Option (m Prop)
 |[]=>f []
 |(d,b)::h=>match kj (look a d) b with
  |some e=>match iX a h with
   |some g=>f (gM e g)
   |none=>n
  |none=>n
def eH{I}:∀{b:bJ}{a:m Prop},iX I b=f a->U a->iB I b
 |[],_,_,_=>λ_ _ _ _ _=>trivial
 |(h,o)::q,a,d,e=>by
  simp[iX]at d;cases p:kj (look I h) o with
  |none=>grind
  |some u=>
   cases g:iX I q with
   |none=>grind
   |some w=>
    simp[p,g]at d;subst d;rw[U.X]at e;intro j r s i k;simp[look];cases t:ad h i with
    |true=>
     grind[Nat.eq_of_beq_eq_true,pj]
    |false=>exact eH g e.2 j r s i k
def l3(a:m aq):Bool:=match ew a with|true=>jO a|false=>v
def Lx(a:l3 k=l):ew k=l/\jO k=l:=by unfold l3 at a;grind
def i_.e5{k}{b}:∀{e:m Deferred}{d:m Nat},i_ k b e d->∀g∈d,k[g]?=f .bl
 |[],[],_,g,a=>by grind
 |[],_::_,i,_,_=>i.elim
 |_::_,[],i,_,_=>i.elim
 |p::e,o::d,⟨⟨h,_⟩,_,j⟩,g,a=>by
  rcases e9.1 a with rfl|a
  .exact h
  exact i_.e5 j g a
def bY(fn:Func)(p:Nat)(b:y)(d:m aq):fw:=λk o h=>
 (k=.ret∨k=.normal)/\∃a e j g,oz o fn.results.toList=f e/\pf e=f j/\kj j (fc a b)=f g/\U g/\hO (c a) b=l /\
  dx a h=f d/\l3 d=l/\fb a=l/\(∀i,i<p->a[i]?=f i)
def k0(P:aE)(fn:Func)(o:Nat)(b:y)(d:m aq):fw:=λj k g=>
 (j=.ret∨j=.normal)/\∃a i e,oQ P fn k i/\kj i (fc a b)=f e/\U e/\hO (c a) b=l /\
  dx a g=f d/\l3 d=l/\fb a=l/\(∀h,h<o->a[h]?=f h)
def bY.toI{fn}{g}{res}{h}{aS}(o:bY fn g res ap h I aS):k0 P fn g res ap h I aS:=by obtain⟨i,d,m,k,e,a,b,j⟩:=o;exact⟨i,d,k,e,oQ.of a b,j⟩
def bk.gu{ab:af P}{S}{fn}{args}{q:ι->m aq}(rD:P.funcs[S]?=f fn)(bj:(fn.name== "runtime.NumGoroutine")=v)(cT:fn.body=f s)(aN:args.length<=fn.ntmps)(U:∀b a',b0 fn.ntmps k b (h2 0 args) a'->bc k b->∀i bd r (I:ai->a6->Prop),i.kind≠.early->i.roundOf=n ->
  (∀aw C j aA K,(∃y,k0 P fn (c k) (res y) (q y) aw C j)->b0 fn.ntmps j aA C K->bc j aA->df k b j aA->kG ab I i bd r aw K aA)->cf ab I (G (i.ab a' (.code s::bd)) r) b):bk ab S args k res q:=by
 refine⟨⟨fn,rD,bj,by grind⟩,λb z aO aI I r aE=>?_⟩;obtain⟨aL,aH⟩:=b4.get aO;let i:aG:={fn:=S,tmps:=#[],todo:=[],defers:=[],mode:=.run,kind:=.normal,roundOf:=n}
 have bu:Frame.enter P S z.toArray .normal=i.ab {tmps:=z.toArray++Array.replicate (fn.ntmps-z.toArray.size) J,defers:=[]} [.code s]:=NT;rw[bu];refine U b {tmps:=z.toArray++Array.replicate (fn.ntmps-z.toArray.size) J,defers:=[]} ⟨by grind,⟨[],B⟩,λo=>?_⟩ aI i [] r I (by simp[i]) rfl ?_
 .rw[yB];simp[gZ,dv,sm];have:=aH o;rcases dT o (c z) with bb|ba
  .exact Qo
  rw[wT w];trivial
 rintro aw C j a1 O ⟨Z,ag,aR,bw,bt,au,av,ax,az,aa,bm,aC,bp⟩ ar Y a2;obtain⟨a,bn⟩:=Lx bm;have fin:∀g d,cV a1 d->g.fn=S->g.tmps=O.tmps->g.defers=O.defers->g.mode=.returning->g.kind=.normal->cf ab I (G g r) d:=by
  intro g d e aj al an Q ao;have T:=ar.rely e Y;have E:=Y.rely e;have t:=a2.trans e.aU;obtain⟨a3,aZ,a9⟩:=au T;obtain⟨x,ae⟩:=vW (kL:=d.t) aa E.len;have a0:=(pj av ax aZ).sub aa ae az;obtain⟨bo,ah⟩:=l4 aa;obtain⟨d1,d2⟩:=l4 ae;have N:∀L∈x,L∈d.t:=D_ ae;have R:bc (q Z) {d with t:=x}:=by obtain⟨F,_⟩:=E.sub aa ae a aC;refine⟨F.mem,F.len,λy X L aJ h=>?_,F.a1,F.lt,λi cT=>⟨(E.own i cT).1,λL h=>(E.own i cT).2 L (N L h)⟩⟩;exact ey.plain (k:=q Z) (b:={d with t:=x,own:=ox d x}) (aA:={d with t:=x}) rfl rfl (vO a X (b_ aJ)) (F.box y X L aJ h)
  have aM:df k b (q Z) {d with t:=x}:=by refine⟨t.size,t.a3,t.mem,t.bz,λL h i cT=>t.bR _ (N L h) i cT,λbf X L aJ h=>?_,t.os,t.tape,t.output,t.own⟩;have aL:bf<c k:=(cO.1 aJ).1;obtain⟨bh,bl,bq,br,bs⟩:=t.box bf X L aJ h;grind
  obtain⟨aS,a8⟩:=T.defers;refine A3 aS g d _ E.dY D Q (by rw[an];exact a8.gD E) λH p=>?_;have aV:cV {d with t:=x} {H with t:=x}:=by refine⟨rfl,p.D,p.own,p.size,λi cT=>p.a3 i (cT.imp id ?_),p.mem,p.os,p.tape,p.output⟩;rintro⟨L,h,cT⟩;obtain⟨y,aK,rfl⟩:=g4 h;have a7:y<c aR:=M;obtain⟨bz,a_,a5⟩:=d2 y _ (bH a7);obtain⟨bx,a4,W⟩:=ah y _ (bH a7);rw[bH aK]at a_;cases a_;refine⟨_,_,a5,λaF=>?_,cT⟩;rw[a8.e5 _ aF]at W;cases W;exact vA bn _ (b_ a4) rfl
  have aD:e2 H {H with t:=x}:=⟨rfl,λ_ _ _ U=>U,λ_ _ _=>rfl,λi u a3 aP=>p.mem i u a3 (by rw[<-p.D];exact aP),λi cT=>cT.imp id λ⟨L,h,cT⟩=>⟨L,by rw[p.t];grind,cT⟩⟩
  refine .aP aD (aE Z _ a3 _ ⟨aj,Q,rfl,ao,fn,by grind,λV aQ=>?_⟩ (a0.mono aV.aU.ext R.len) (R.rely aV) (aM.trans aV.aU));show(results fn g.tmps).run P V=_/\∀aw∈(results fn g.tmps).events P V #[],_;rw[al];have bg:∀i u A,d.D i u=f A->V.cell? ⟨i,u,n⟩=f A:=λi u A U=>aQ i u A (by show H.D i u=f A;rw[p.D];exact U);refine⟨(a9 V bg).1,λaw ag=>?_⟩;obtain⟨i,u,A,aW,aY⟩:=(a9 V bg).2 aw ag;exact⟨i,u,A,aW,by show H.D i u=f A;rw[p.D];exact aY⟩
 rcases ag with rfl|rfl
 .intro pre;exact .ctl Y rfl (λ_=>Ec rfl) λd e=>fin _ d e rfl rfl (h1 _) rfl rfl
 exact .ctl Y rfl (λ_=>Ea rfl) λd e=>fin _ d e rfl rfl (h1 _) rfl rfl
def bk.hy{w:af P}{r}{fn}{args}{j:ι->m aq}(F:P.funcs[r]?=f fn)(D:(fn.name== "runtime.NumGoroutine")=v)(A:fn.body=f s)(C:args.length<=fn.ntmps)(E:∀i p,b0 fn.ntmps k i (h2 0 args) p->bc k i->∀h u g (o:ai->a6->Prop),h.kind≠.early->h.roundOf=n ->
  (∀q d a b e,(∃t,bY fn (c k) (res t) (j t) q d a)->b0 fn.ntmps a b d e->bc a b->df k i a b->kG w o h u g q e b)->cf w o (G (h.ab p (.code s::u)) g) i):bk w r args k res j:=
 bk.gu F D A C λi p r B h u g o x y z=>E i p r B h u g o x y λq d a b e ⟨t,I⟩=>z q d a b e ⟨t,I.toI⟩
def bk.jb{q:af P}{b}{fn}{args}{ap:ι->m aq}(A:P.funcs[b]?=f fn)(w:(fn.name== "runtime.NumGoroutine")=v)(e:fn.body=f s)(t:args.length<=fn.ntmps)(x:b3 q fn.ntmps s (λu j a=>∃i,k0 P fn k.length (res i) (ap i) u j a) (h2 0 args) k):bk q b args k res ap:=
 bk.gu A w e t λB p b g r z d o h _ y=>x B p b g r z d o h y
def bk.intro{j:af P}{d}{fn}{args}{a:ι->m aq}(B:P.funcs[d]?=f fn)(x:(fn.name== "runtime.NumGoroutine")=v)(g:fn.body=f s)(t:args.length<=fn.ntmps)(y:b3 j fn.ntmps s (λw o b=>∃u,bY fn k.length (res u) (a u) w o b) (h2 0 args) k):bk j d args k res a:=
 bk.hy B x g t λC q d h r A e p i _ z=>y C q d h r A e p i z
def X.intro{P}{b:af P}{d}{fn}{s}{args}{k ap}{res}(h:P.funcs[d]?=f fn)(g:(fn.name== "runtime.NumGoroutine")=v)(a:fn.body=f s)(e:args.length<=fn.ntmps)(i:b3 b fn.ntmps s (bY fn k.length res ap) (h2 0 args) k):X b d args k res ap:=
 (bk.intro h g a e (b3.mono i λ_ _ _ j=>⟨(),j⟩)).toX
inductive ik where
 |code (s:Code)
 |blk (id:Nat)
 |aj (all bq:List an)
def g{P}(i:af P)(h:Nat)(a:fw):m ik->fw
 |[],k,b,d=>a k b d
 |.code q::e,.normal,b,d=>b3 i h q (g i h a e) b d
 |.code _::e,k,b,d=>g i h a e k b d
 |.blk id::e,.exit j,b,d=>if j=id then g i h a e .normal b d else g i h a e (.exit j) b d
 |.blk _::e,k,b,d=>g i h a e k b d
 |.aj p o::e,.normal,b,d=>ff i h p o (g i h a e .normal) b d
 |.aj _ _::e,k,b,d=>g i h a e k b d
section
variable {q:af P}{bd:fw}{au:m ik}
def g.aO(a:g q E bd [.code s] .normal I k):b3 q E s bd I k:=a
theorem g.skip(a:g q E bd au .normal I k):g q E bd (.code .skip::au) .normal I k:=b3.skip a
theorem g.seq{a b}(i:g q E bd (.code a::.code b::au) .normal I k):g q E bd (.code (.seq a b)::au) .normal I k:=by refine b3.seq (b3.mono i ?_);intro h d e j;cases h<;>exact j
theorem g.block{id}{s}(e:g q E bd (.code s::.blk id::au) .normal I k):g q E bd (.code (.block id s)::au) .normal I k:=by refine b3.block (b3.mono e ?_);intro d a b h;cases d<;>exact h
theorem g.ir{id}(a:g q E bd au .normal I k):g q E bd (.blk id::au) .normal I k:=a
theorem g.region{id}{aQ}(a:g q E bd (.aj aQ.toList aQ.toList::au) .normal I k):g q E bd (.code (.region id aQ v)::au) .normal I k:=b3.region a
theorem g.hE(a:g q E bd au .normal I k):g q E bd (.aj all []::au) .normal I k:=ff.nil a
def g.dK:∀{au:m ik},bd .ret I k->g q E bd au .ret I k
 |[],a=>a
 |.code _::au,a=>g.dK (au:=au) a
 |.blk _::au,a=>g.dK (au:=au) a
 |.aj _ _::au,a=>g.dK (au:=au) a
def g.ret(a:bd .ret I k):g q E bd (.code .ret::au) .normal I k:=b3.ret (g.dK a)
def iT(id:Nat):m ik->Option (m ik)
 |[]=>n
 |.blk b::a=>match ad id b with|true=>f a|false=>iT id a
 |_::a=>iT id a
def g.toExit{id}:∀{au e:m ik},iT id au=f e->g q E bd e .normal I k->g q E bd au (.exit id) I k
 |[],_,a,_=>by cases a
 |.blk i::au,e,a,d=>by
  simp[iT]at a;cases b:ad id i with
  |true=>
   simp[b]at a;subst a;have h:=dn b;simp[g,h,dv];exact d
  |false=>
   simp[b]at a;have j:id≠i:=λh=>by grind[Nat.beq_refl]
   simp[g,j,dm];exact g.toExit a d
 |.code _::au,e,a,d=>g.toExit (au:=au) a d
 |.aj _ _::au,e,a,d=>g.toExit (au:=au) a d
theorem g.exit{id}{b}(a:iT id au=f b)(d:g q E bd b .normal I k):g q E bd (.code (.exit id)::au) .normal I k:=b3.exit (g.toExit a d)
theorem g.cond{s}{b d}{i}{o}(e:s=.tmp o)(a:look I o=ax (.bool i))(j:i=l->g q E bd (.code b::au) .normal I k)(h:i=v->g q E bd (.code d::au) .normal I k):g q E bd (.code (.cond s b d)::au) .normal I k:=b3.cond e a j h
def g.loop{br:Type}{s}(o:br->Prop)(a:br->bJ)(b:br->m aq)(p:br->Nat)(d)(w:o d)(t:iB I (a d))(r:b d=k)(round:∀d,o d->g q E (λj e h=>match j with
   |.normal=>∃i,o i/\p i<p d/\iB e (a i)/\h=b i
   |j=>g q E bd au j e h) [.code s] .normal (a d) (b d)):g q E bd (.code (.loop s)::au) .normal I k:=by refine b3.loop o a b p d w t r λi u=>b3.mono (round i u) ?_;intro j e h x;cases j<;>exact x
end
def e0{a d:Type}:m a->(m a->Option d)->Option d
 |[],b=>b []
 |h::g,b=>e0 g λe=>b (h::e)
theorem hz{b:Type}(d)(a:m α->Option b):e0 d a=a d:=by
 induction d generalizing a with
 |nil=>rfl
 |cons h g e=>simp[e0,e]
def yr(d:bJ)(a:m an)(g:Nat):Option (Option Bool):=
 match c_ g a with
 |some b=>match b.dst with
  |some e=>match look d e with
   |.n (.Q (.c (.bool l)))=>f (f l)
   |.n (.Q (.c (.bool v)))=>f (f v)
   |.S []=>f n
   |_=>n
  |none=>n
 |none=>n
def ys{e}(t:yr I all u=f e){x}(g:b0 E k b I x):yielded all.toArray x.tmps u=e:=by
 unfold yr at t;rw[ld]at t;unfold yielded;cases a:all[u]? with
 |none=>grind
 |some d=>
  simp[a]at t;simp[j4,a,nX];cases j:d.dst with
  |none=>grind
  |some O=>
   simp[j]at t;simp[nX];have s:=g.aL O;have key:∀aa,x.tmps.getD O J=aa->aa≠J->x.tmps[O]?=f aa:=by intro aa aw p;simp[hu]at aw;grind
   split at t
   .exact O3
   .exact O3
   .rename_i C;cases t;rw[C]at s;obtain⟨z,o,m⟩:=s;have h:z=[]:=by cases z with
     |nil=>rfl
     |cons _ _=>exact m.elim
    subst h;simp[hu]at o;grind
   grind
def yS(o:m (Nat×cp))(g:bJ)(d:m aq)(I:an):Option (y×m aq×m Prop):=
 match I.op with
 |.move e|.assign e=>f (bD g e,d,[])
 |.pick u t z=>match bD g u with
  |.n (.Q (.c (.bool l)))=>f (bD g t,d,[])
  |.n (.Q (.c (.bool v)))=>f (bD g z,d,[])
  |_=>n
 |.binOp q _ e E _=>match bD g e,bD g E with
  |.n (.Q (.c t)),.n (.Q (.c z))=>match xi q t z with
   |some (u,x)=>f (ax u,d,x)
   |none=>n
  |_,_=>n
 |.unOp q _ e=>match bD g e with
  |.n (.Q (.c t))=>match zG q t with
   |some u=>f (ax u,d,[])
   |none=>n
  |_=>n
 |.extract e C=>match bD g e with
  |.S D=>match c_ C D with
   |some p=>f (.n p,d,[])
   |none=>n
  |_=>n
 |.alloc r=>match bZ o r with
  |some j=>e0 (d++[.cells r (j.zero.map R.c)]) λh=>f (aI (c d) 0,h,[])
  |none=>n
 |.box r e=>match mn (bD g e)with
  |some a=>e0 (d++[.cells r a]) λh=>f (aI (c d) 0,h,[])
  |none=>n
 |.load i e=>match bZ o i with
  |some j=>match bD g e with
   |.n (.Q (.ptr k b))=>match c_ k d with
    |some (.cells _ a)=>match hh j (f_ b a)with
     |some p=>f (.n p,d,[])
     |none=>n
    |_=>n
   |.n (.Q (.c (.R a)))=>match hh j (a.map R.c)with
    |some p=>f (.n p,d,[])
    |none=>n
   |_=>n
  |none=>n
 |.store i e E=>match bZ o i with
  |some j=>match bD g e with
   |.n (.Q (.ptr k b))=>match c_ k d with
    |some (.cells r a)=>match mn (bD g E)with
     |some new=>match ad (c new) j.size with
      |true=>match iZ b new a with
       |some w=>e0 (da.cu k (.cells r w) d) λh=>f (.any,h,[])
       |none=>n
      |false=>n
     |none=>n
    |_=>n
   |_=>n
  |none=>n
 |.fieldAddr i e B=>match lc o i B with
  |some (s,_)=>match bD g e with
   |.n (.Q (.ptr k b))=>f (aI k (b+s),d,[])
   |.n (.Q (.c (.R a)))=>f (ax (.R (f_ s a)),d,[])
   |_=>n
  |none=>n
 |.field i e B=>match lc o i B with
  |some (s,C)=>match bD g e with
   |.n (.agg a)=>match hh C (f_ s a)with
    |some p=>f (.n p,d,[])
    |none=>n
   |_=>n
  |none=>n
 |.nilCheck e=>match bD g e with
  |.n (.Q (.ptr k b))=>f (aI k b,d,[])
  |.n (.Q (.c (.R a)))=>f (ax (.R a),d,[])
  |_=>n
 |.build i parts=>match xm o (bD g) i parts.toList with
  |some a=>f (.n (.agg a),d,[])
  |none=>n
 |.buildSlice i F parts=>match rO o (bD g) i F parts.toList with
  |some (s,A)=>f (ax (.B l s F λj=>A.getD j []),d,[])
  |none=>n
 |_=>n
theorem DE{ac}(aY:b2 P ac){m}(a:yS ac I k r=f (m,ap,cn))(q:U cn):a1 P r (bD I) k m ap:=by
 unfold yS at a;split at a
 .grind [a1.move]
 .grind [a1.assign]
 .rename_i s t i b;split at a
  .rename_i j;cases a;exact a1.pick b j
  .rename_i j;cases a;exact a1.pick b j
  grind
 .grind [a1.binOp]
 .grind [a1.unOp]
 .grind [a1.extract,et]
 .grind [hz,a1.alloc]
 .grind [hz,a1.box]
 .rename_i o p b;split at a
  .grind [a1.hi,et,a1.hj]
  grind
 .rename_i o p x b;split at a
  .rename_i e bp;split at a
   .rename_i d off g;split at a
    .grind [hz,mO,a1.store,et,Nat.eq_of_beq_eq_true]
    grind
   grind
  grind
 .rename_i o p w b;split at a
  .rename_i h u C;split at a
   .rename_i d off g;cases a;exact a1.g3 aY b g C
   .grind [a1.g4]
   grind
  grind
 .grind [a1.field]
 .grind [a1.ht,a1.hx]
 .grind [a1.build]
 .grind [a1.buildSlice]
 grind
def fj(a:Nat):Option Nat->Bool
 |some b=>ay (b+1) a
 |none=>l
def k9{b}(e:fj E b=l):∀a,b=f a->a<E:=by intro a d;subst d;exact fs e
theorem i6(b:r.guard=n){a:Act}:aP r (yielded all.toArray a.tmps)=l:=by simp[aP,b]
section
variable {ac:m (Nat×cp)}
def kC(a:ae->y):Option ae->Option (Option Int)
 |none=>f n
 |some d=>match a d with
  |.n (.Q (.c (.int _ b)))=>f (f b)
  |_=>n
def j9{a:ae->Y}(o:∀d,bx k b (a d) (η d)){g}{i}(e:kC η g=f i):(g.map a=n/\i=n)∨∃j h,g.map a=f (.int j h)/\i=f h:=by
 cases g with
 |none=>cases e;grind
 |some d=>
  right;simp[kC]at e;split at e
  .rename_i j h m;cases e;have:=o d;rw[m]at this;have:=b7 this;generalize p:a d=q at this;cases this;grind
  grind
def bV(a:Nat):Option Int->Nat
 |none=>a
 |some b=>b.toNat
def jh(d:Nat):Option Int->Option Int->m Prop
 |none,n=>[]
 |some b,n=>[0<=b,b<=d]
 |none,f a=>[0<=a,a<=d]
 |some b,f a=>[0<=b,b<=a,a<=d]
def vT{ki}{cap}(t:j<=cap){e6 bp}{d a}(m:(e6=n/\d=n)∨∃h g,e6=f (.int h g)/\d=f g)(o:(bp=n/\a=n)∨∃h g,bp=f (.int h g)/\a=f g)(b:U (jh j d a))(p):(aT ki j cap e6 bp n).run P p=.ok (bV 0 d,bV j a,cap) p/\bV 0 d<=bV j a/\bV j a<=j:=by
 rcases m with⟨rfl,rfl⟩|⟨k,d,rfl,rfl⟩<;>rcases o with⟨rfl,rfl⟩|⟨s,a,rfl,rfl⟩
 .exact⟨by simp[aT,bV],by simp[bV],by simp[bV]⟩
 .obtain⟨e,i⟩:0<=a/\a<=(j:Int):=b;refine⟨?_,by simp[bV],by simp[bV];omega⟩;simp[aT,bV,run_sliceBound (P:=P) p s a cap _ e w]
 .obtain⟨e,i⟩:0<=d/\d<=(j:Int):=b;refine⟨?_,by simp[bV];omega,by simp[bV]⟩;simp[aT,bV,run_sliceBound (P:=P) p k d j _ e i]
 obtain⟨e,i,r⟩:0<=d/\d<=a/\a<=(j:Int):=b;have q:=re w;refine⟨?_,by simp[bV];omega,by simp[bV];omega⟩;simp[aT,bV,run_sliceBound (P:=P) p s a cap _ w w,run_sliceBound (P:=P) p k d a.toNat _ e w]
def la(p)(h)(e)(a:Nat)(code)(b:0<=e)(d:e<=(a:Int))(V):(Instr.sliceBound (.int h e) a code).events P p V=V:=by simp[Instr.sliceBound,asIntOf,b,d]
def u5{ki}{cap}{e6 bp}{d a}(y:j<=cap)(q:(e6=n/\d=n)∨∃h g,e6=f (.int h g)/\d=f g)(r:(bp=n/\a=n)∨∃h g,bp=f (.int h g)/\a=f g)(b:U (jh j d a))(p)(V):(aT ki j cap e6 bp n).events P p V=V:=by
 have u:∀ki (m:Option Y) (o:Nat) p V,m=n->(aT ki j cap n n n).events P p V=V:=λki m o p V _=>by simp[aT]
 rcases q with⟨rfl,rfl⟩|⟨k,d,rfl,rfl⟩<;>rcases r with⟨rfl,rfl⟩|⟨i,a,rfl,rfl⟩
 .simp[aT]
 .obtain⟨e,s⟩:0<=a/\a<=(j:Int):=b;simp[aT,la (P:=P) p i a cap _ e w]
 .obtain⟨e,s⟩:0<=d/\d<=(j:Int):=b;simp[aT,la (P:=P) p k d j _ e s]
 obtain⟨e,s,x⟩:0<=d/\d<=a/\a<=(j:Int):=b;have t:=re w;simp[aT,run_sliceBound (P:=P) p i a cap _ w w,la (P:=P) p i a cap _ w w,la (P:=P) p k d a.toNat _ e w]
def mq(a:m UInt8):Option Int->Option Int->m UInt8
 |none,n=>a
 |some d,n=>a.drop d.toNat
 |none,f b=>a.take b.toNat
 |some d,f b=>(a.take b.toNat).drop d.toNat
theorem a1.jV(aY:b2 P ac){s:ae}{e6 bp}(B:r.op=.slice o s e6 bp n){e}(I:bZ ac o=f e)(K:e.desc=.string){b}{d m}(N:η s=ax (.T b))(q:kC η e6=f d)(D:kC η bp=f m)(F:U (jh (c b) d m)):a1 P r η k (ax (.T (mq b d m))) k:=by
 refine .aR λi w E h=>?_;have g:=h s;rw[N]at g;replace g:=b7 g;generalize x:w s=O at g;cases g with
 |@T a _ C Q=>
 have A:a.size=c b:=by rw[<-C];exact m9.symm
 obtain⟨u,y,z⟩:=vT (P:=P) (ki:=v) (j:=a.size) (cap:=a.size) (bC _) (j9 h q) (j9 h D) M i.a;have t:=(aY o e I).run_underlying (p:=i.a);rw[K]at t;have J:=u5 (P:=P) (ki:=v) (j:=a.size) (cap:=a.size) (bC _) (j9 h q) (j9 h D) M i.a;refine⟨.string (a.extract (bV 0 d) (bV a.size m)),?_,Rd.T ?_ ?_,by simp[ab,B,x,Instr.sliceAt,t,Instr.slice,J]⟩
 .simp[ab,B,x,Instr.sliceAt,t,Instr.slice,u]
 .rw[Lib.extract_data,C,A];rw[A]at y z;cases d<;>cases m<;>simp only[mq,bV]at y z⊢
  .simp
  .simp
  .grind [List.take_of_length_le]
  rw[List.drop_take]
 cases d<;>cases m<;>simp[mq,sj,List.length_take]<;>omega
def fA(d:Nat)(a:Nat->m N):Nat->m N:=λb=>a (d+b)
def xM(eO:Bool):Option Int->Bool
 |none=>eO
 |some _=>v
theorem a1.jU(aY:b2 P ac){M:ae}{e6 a}(S:r.op=.slice o M e6 a n){e a4}(ai:bZ ac o=f e)(aj:e.desc=.slice W)(al:bZ ac W=f a4){eO}{d s}(Z:∀X Y,bx k X Y (η M)->Rd X.D Y (.B eO a4.size j V))(u:kC η e6=f d)(T:kC η a=f s)(A:U (jh j d s)):
  a1 P r η k (ax (.B (xM eO s) a4.size (bV j s-bV 0 d) (fA (bV 0 d) V))) k:=by
 refine .aR λg an ag b=>?_;have m:=Z g _ (b M);obtain⟨O,i,z,K,Q,R,N,G,ah⟩:=m.bZ;rw[K]at m;obtain⟨t,ao,y⟩:=vT (P:=P) (ki:=l) Q (j9 b u) (j9 b T) A g.a;have F:=(aY o e ai).run_underlying (p:=g.a);rw[aj]at F;refine⟨.slice (if i=bV 0 d then O else O.map (·.add (bV 0 d*a4.size))) (bV j s-bV 0 d) (i-bV 0 d),?_,?_,by simp[ab,S,K,Instr.sliceAt,F,Instr.slice,t,u5 (P:=P) (ki:=l) Q (j9 b u) (j9 b T) A g.a]⟩
 .simp[ab,S,K,Instr.sliceAt,F,Instr.slice,t,(aY W a4 al).ba]
 cases m with
 |B aa D af _ _ _ J I x B=>
  refine Rd.B aa (D+bV 0 d*a4.size) (λe C=>af (bV 0 d+e) C) w w ?_ (λe a=>J _ w) (λaq=>?_) (λe a C E q=>?_) (λe a C E q=>B _ w C E q)
  .intro h;cases s with
   |none=>simp[xM]at h;have:=N h;simp[bV];omega
   |some s=>cases h
  .rw[bj w,I w];simp[g0]
  have:=x (bV 0 d+e) w C E q;grind
def a1.iC(aY:b2 P ac){b dst:al}{i:ae}(x:r.op=.convert b dst i){y m:cp}{h d}{u}(o:bZ ac b=f y)(z:bZ ac dst=f m)(B:m.desc=.int d)(C:η i=ax (.int h u))(e:a7 d u):
  a1 P r η k (ax (.int d u)) k:=by refine .aR λg s A q=>?_;have a:=q i;rw[C]at a;replace a:=b7 a;generalize t:s i=D at a;cases a;have w:=(aY b y o).run_underlying (p:=g.a);have j:=(aY dst m z).run_underlying (p:=g.a);rw[B]at j;exact⟨.int d u,by simp[ab,x,t,convert,w,j,Conv.intToInt,r5 e],Rd.int e,by simp[ab,x,t,convert,w,j,Conv.intToInt]⟩
theorem a1.iD(aY:b2 P ac){a dst:al}{g:ae}(u:r.op=.convert a dst g){w m:cp}{b}(i:bZ ac a=f w)(x:bZ ac dst=f m)(z:m.desc=.string)(A:η g=ax (.T b)):
  a1 P r η k (ax (.T b)) k:=by refine .aR λe o y j=>?_;have d:=j g;rw[A]at d;have t:=b7 d;generalize q:o g=B at t;cases t;have s:=(aY a w i).run_underlying (p:=e.a);have h:=(aY dst m x).run_underlying (p:=e.a);rw[z]at h;exact⟨_,by simp[ab,u,q,convert,s,h];rfl,by grind,by simp[ab,u,q,convert,s,h]⟩
def uO(a:Nat->m N):Nat->Nat->Option (m UInt8)
 |_,0=>f []
 |b,d+1=>match a b with
  |[.int .u8 g]=>match uO a (b+1) d with
   |some e=>f (UInt8.ofNat g.toNat::e)
   |none=>n
  |_=>n
def GY{bB}{s:Nat->m N}:∀{h e:Nat}{i:m UInt8}{z:m Y},uO s e h=f i->c z=h->(∀g,g<h->∀j,(s (e+g))[0]?=f j->∃o,z[g]?=f o/\Rd bB o j) ->
  ∃b:m Int,z=b.map (Value.int .u8)/\i=b.map (λk=>UInt8.ofNat k.toNat)
 |0,e,i,z,d,p,_=>by cases d;exact⟨[],by grind,a⟩
 |h+1,e,i,[],d,p,_=>by grind
 |h+1,e,i,o::z,d,p,q=>by
  simp[uO]at d;split at d
  .rename_i k C;split at d
   .rename_i D t;cases d;obtain⟨E,r,u⟩:=q 0 w (.int .u8 k) M
    simp at r;subst r;cases u;obtain⟨b,A,y⟩:=GY (z:=z) t M (λg x j B=>by
     have:=q (g+1) w j M
     simpa using this)
    exact⟨k::b,by grind,by grind⟩
   grind
  grind
def L_{P}(p){e:Y->ByteArray->Sem (ForInStep ByteArray)}(g:∀d b,e (.int .u8 d) b=pure (.yield (b.push (UInt8.ofNat d.toNat)))):∀(a:m Int)b,
  (forIn (m:=Sem) (a.map (Value.int .u8)) b e).run P p=.ok ⟨b.data++(a.map λd=>UInt8.ofNat d.toNat).toArray⟩ p
 |[],b=>by simp
 |d::a,b=>by simp only[mf,List.forIn_cons,g,cJ,dY,c8];rw[L_ p g a];congr 2;apply Array.ext';simp[ByteArray.push]
end
def aZ(p:af P)(w:Nat)(a:m an)(s:an)(u:bJ)(i:m aq)(x:y)(e:m aq):Prop:=
  ∀h j,b0 w i h u j->bc i h->∀(k:aG) r g (o:ai->a6->Prop) q b,k.kind≠.early->a.toArray[q]?=f s ->
    (∀t d,bx e d t x->bc e d->df i h e d->cf p o (G (k.ab (j.put s.dst t) (.inRegion a.toArray b::r)) g) d)->cf p o (G (k.ab j (.inRegion a.toArray (q::b)::r)) g) h
section
variable {q:af P}{dD:bJ}{F:y}
theorem aZ.a0(N:∀k A e,b0 E k A I e->aP r (yielded all.toArray e.tmps)=l)(K:a1 P r (bD I) k F ap):aZ q E all r I k F ap:=by
  intro A e w i R T D Q S u s t h;refine rk s t (N _ _ _ w) λo j=>?_;have m:=i.rely j;obtain⟨O,b,g,d,p,y,M⟩:=K o e.eval m (eF (w.rely j i));have x:=j.aU.trans (y.tooV m);have z:kx o b ((ab e.eval r).events P o.a #[]):=⟨⟨k,ap,m,p,y⟩,M⟩;cases O with
  |value C=>exact⟨_,b,C,g,.inl rfl,z,h C b d p x⟩
  |skip=>simp[Ar]at d;subst d;exact⟨_,b,J,g,.inr ⟨a,a⟩,z,h J b B p x⟩
  |_=>exact d.elim
def aZ.hG(o:∀k j d,b0 E k j I d->aP r (yielded all.toArray d.tmps)=v):aZ q E all r I k (.S []) k:=by intro j d s b w y m u x h t g e;exact .ctl b a (λ_=>abO g (o _ _ _ s)) λp i=>e J p ⟨[],a,B⟩ (b.rely i) i.aU
def ff.de{aM:bJ->m aq->Prop}(N:aZ q E all r I k F ap)(M:∀p,r.dst=f p->p<E)(Q:ff q E all bq aM (ga r.dst F I) ap):ff q E all (r::bq) aM I k:=by
  intro S D t b C i e B idx g a x;cases idx with
  |nil=>exact a.elim
  |cons O idx=>
  refine N S D t b C i e B O idx g a.1 λT z y h d=>Q z _ ?_ h C i e B idx g a.2 λJ o A s R u w j=>x J o A s R u w (d.trans j);cases K:r.dst with
  |none=>exact t.mono d b.len
  |some p=>exact(t.mono d b.len).put (M p K) y
end
abbrev bI:=m y->m aq->Option (y×m aq×m Prop)
def s8:m (Nat×bI)->Nat->Option bI
  |[],_=>n
  | (d,b)::e,a=>cond (ad d a) (f b) (s8 e a)
def bK(g:af P)(h:a0)(i:bI):Prop:=∀args e b d a,i args e=f (b,d,a)->U a->X g h args e b d
def a_(e:af P)(a:m (Nat×bI)):Prop:=∀b d,s8 a b=f d->bK e b d
def a_.nil{a:af P}:a_ a []:=λ_ _ b=>by cases b
def a_.cons{d:af P}{e}{C}{CT}(j:bK d e C)(i:a_ d CT):a_ d ((e,C)::CT):=by
  intro b g a;simp[s8]at a;cases h:ad e b with
  |true=>grind[Nat.eq_of_beq_eq_true]
  |false=>rw[h]at a;exact i b g a
def n2:R->m Nat->m Nat
  |.ptr b _,a=>cond (ek b a) a (a++[b])
  |.x b _ _ _,a=>cond (ek b a) a (a++[b])
  |.aM b,a=>cond (ek b a) a (a++[b])
  |.O b _,a=>cond (ek b a) a (a++[b])
  |_,a=>a
def GW:m R->m Nat->m Nat
  |[],a=>a
  |b::d,a=>GW d (n2 b a)
def p':y->m Nat->m Nat
  |.n (.Q d),a=>n2 d a
  |.n (.agg b),a=>GW b a
  |_,a=>a
def GV:m y->m Nat->m Nat
  |[],a=>a
  |b::d,a=>GV d (p' b a)
def sZ(b:Nat):m Nat->Nat->Option Nat
  |[],_=>n
  |d::e,a=>match ad d b with|true=>f a|false=>sZ b e (a+1)
def Kc{d}:∀{b:m Nat} {e g:Nat},sZ d b e=f g->e<=g/\b[g-e]?=f d
  |[],_,_,a=>by cases a
  |i::o,e,g,a=>by
    simp[sZ]at a;cases h:ad i d with
    |true=>simp_all
    |false=>
      rw[h]at a;obtain⟨j,k⟩:=Kc a;grind
def tM(a:m Nat):R->Option R
  |.ptr d e=>match sZ d a 0 with|some b=>f (.ptr b e)|none=>n
  |.aM d=>match sZ d a 0 with|some b=>f (.aM b)|none=>n
  |.O d g=>match sZ d a 0 with|some b=>f (.O b g)|none=>n
  |.x _ _ _ _=>n
  |.c h=>f (.c h)
  |.any=>f .any
def zH(a:m Nat):m R->Option (m R)
  |[]=>f []
  |b::g=>match tM a b with
    |some d=>match zH a g with
      |some e=>f (d::e)
      |none=>n
    |none=>n
def EK(a:m Nat):y->Option y
  |.n (.Q e)=>match tM a e with|some b=>f (.n (.Q b))|none=>n
  |.n (.agg d)=>match zH a d with|some b=>f (.n (.agg b))|none=>n
  |.S _=>n
  |.any=>f .any
def tN(a:m Nat):m y->Option (m y)
  |[]=>f []
  |b::g=>match EK a b with
    |some d=>match tN a g with
      |some e=>f (d::e)
      |none=>n
    |none=>n
def Nh{b i}(a:tM aV b=f i):kp aV i=b/\lV (c aV) i=l:=by
  cases b with
  |ptr d k=>
    simp[tM]at a;split at a
    · rename_i e bp
      cases a;exact Fk
    grind
  |aM d=>
    simp[tM]at a;split at a
    · rename_i e bp
      cases a;exact Fk
    grind
  |O d m=>
    simp[tM]at a;split at a
    · rename_i e bp
      cases a;exact Fk
    grind
  |x d h j g=>cases a
  |c o=>cases a;exact cS
  |any=>cases a;exact cS
def Nk{aV}:∀{d b:m R},zH aV d=f b->qI aV b=d/\lg (c aV) b=l
  |[],b,a=>by cases a;exact cS
  |d::p,b,a=>by
    simp[zH]at a;split at a
    · rename_i q k
      split at a
      · rename_i o e
        cases a;obtain⟨i,g⟩:=Nh k;obtain⟨j,h⟩:=Nk e;exact⟨by simp[qI,i,j],by simp[lg,g,h]⟩
      grind
    grind
def ad9{b i}(a:EK aV b=f i):fc aV i=b/\hO (c aV) i=l:=by
  unfold EK at a;split at a
  · rename_i b
    split at a
    · rename_i j e;cases a;obtain⟨d,h⟩:=Nh e;exact⟨by simp[fc,pt,d],by exact cS⟩
    grind
  · rename_i g
    split at a
    · rename_i j e;cases a;obtain⟨d,h⟩:=Nk e;exact⟨by simp[fc,pt,d],by exact cS⟩
    grind
  · cases a
  · cases a;exact cS
def Nj{aV}:∀{d b:m y},tN aV d=f b->gn aV b=d/\ha (c aV) b=l
  |[],b,a=>by cases a;exact cS
  |d::p,b,a=>by
    simp[tN]at a;split at a
    · rename_i q k
      split at a
      · rename_i o e
        cases a;obtain⟨i,g⟩:=ad9 k;obtain⟨j,h⟩:=Nj e;exact⟨by simp[gn,i,j],by simp[ha,g,h]⟩
      grind
    grind
def BK(j:m (Nat×bI))(q:bJ)(k:m aq)(o:ae)(p:m ae):Option (y×m aq×m Prop):=
  match g1 (bD q o)with
  |none=>n
  |some (r,g)=>match s8 j r with
    |none=>n
    |some s=>
      let args:=k5 (p.map (bD q)++e' g);let a:=GV args []
      match tN a args with
      |none=>n
      |some d=>match dx a k with
        |none=>n
        |some e=>match s d e with
          |none=>n
          |some (i,b,h)=>match ew e,ew b,fb a,ay (c a) (c b) with
            |true,l,l,l=>f (fc (a++gV (c k) (c b-c a)) i,da a b k,h)
            |_,_,_,_=>n
theorem aZ.gN{J:af P}{CT}(p:a_ J CT)(H:∀k g b,b0 E k g I b->aP r (yielded all.toArray b.tmps)=l)(e:r.op=.call {callee:=.value cP,args:=ag,argTypes:=dr}){i}(h:g1 (bD I cP)=f (i,cap)){C}(aw:s8 CT i=f C){aS}{res}(N:tN aV (k5 (ag.toList.map (bD I)++e' cap))=f cQ)(X:dx aV k=f dh)(aq:C cQ dh=f (res,aS,cn))(Z:ew dh=l)(av:ew aS=l)(y:fb aV=l)(Y:c aV<=c aS)(ao:U cn):aZ J E all r I k (fc (aV++gV (c k) (c aS-c aV)) res) (da aV aS k):=by
  obtain⟨al,W⟩:=Nj N;intro g b A t az aj ab ax aA D s u q;have S:=p i C aw _ _ _ _ _ aq ao;have T:=eF A cP;unfold g1 at h;split at h
  case h_2=>cases h
  case h_1 u7 uT he=>
    cases h;rw[he]at T;have O:=b7 T;generalize G:b.eval cP=ah at O;cases O with
    |fn m a x d ae j ai o ar B=>
      have R:m=[]:=jC x;subst R;have an:b4 k g a (e' cap):=qc (λz aa w=>⟨j z,o z M,B z aa w⟩) d;have au:b4 k g (ag.toList.map b.eval++a) (gn aV cQ):=by rw[al];exact uS ((m6 (eF A) ag.toList).append an)
      obtain⟨fn,V,Q,K⟩:=S.1;exact Gx s u (H _ _ _ A) t (λF=>(mM e V Q K G F).1) (λF=>(mM e V Q K G F).2) S au W X Z av y Y q
theorem aZ.call{b:af P}{CT}(g:a_ b CT){F}(p:∀k j d,b0 E k j I d->aP r (yielded all.toArray d.tmps)=l)(i:r.op=.call {callee:=.value cP,args:=ag,argTypes:=dr})(a:BK CT I k cP ag.toList=f (F,ap,cn))(m:U cn):aZ b E all r I k F ap:=by
  unfold BK at a;split at a
  · cases a
  rename_i q e h;split at a
  · cases a
  rename_i s o;simp only at a;split at a
  · cases a
  grind[aZ.gN,Nat.le_of_ble_eq_true]
def LZ{g}(e:hO 0 g=l):fc [] g=g:=by
  have j:∀{a:R},lV 0 a=l->kp [] a=a:=by intro a d;cases a<;>simp[lV]at d<;>first|rfl|simp_all
  have p:∀{b:m R},lg 0 b=l->qI [] b=b:=by
    intro b;induction b with
    |nil=>exact cS
    |cons a q h=>
      intro e;simp[lg]at e;cases d:lV 0 a with
      |false=>grind
      |true=>simp[d]at e;simp[qI,j d,h e]
  have i:∀{a:E1},pe 0 a=l->pt [] a=a:=by
    intro a d;cases a with
    |Q a=>simp[pt,j d]
    |agg o=>simp[pt,p d]
  have k:∀{b:m E1},oj 0 b=l->tn [] b=b:=by
    intro b;induction b with
    |nil=>exact cS
    |cons a q h=>
      intro e;simp[oj]at e;cases d:pe 0 a with
      |false=>grind
      |true=>simp[d]at e;simp[tn,i d,h e]
  cases g with
  |n s=>simp[fc,i e]
  |S r=>simp[fc,k e]
  |any=>rfl
def BL(g:m (Nat×bI))(j:bJ)(h:ae)(i:m ae):Option (y×m Prop):=
  match g1 (bD j h)with
  |none=>n
  |some (k,d)=>match s8 g k with
    |none=>n
    |some o=>match tN [] (k5 (i.map (bD j)++e' d))with
      |none=>n
      |some a=>match o a []with
        |some (b,[],e)=>match hO 0 b with
          |true=>f (b,e)
          |false=>n
        |_=>n
theorem aZ.iz{P:aE}{o:af P}{E}{all}{I}{k}{r}{CT}(h:a_ o CT){cP}{ag}{dr}{F}{cn}(x:∀k y p,b0 E k y I p->aP r (yielded all.toArray p.tmps)=l)(j:r.op=.call {callee:=.value cP,args:=ag,argTypes:=dr})(b:AM.BL CT I cP ag.toList=f (F,cn))(t:U cn):aZ o E all r I k F k:=by
  unfold AM.BL at b;split at b
  · cases b
  rename_i z q i;split at b
  · cases b
  rename_i A u;split at b
  · cases b
  rename_i g e;split at b
  case h_2=>cases b
  rename_i s m d;split at b
  case h_2=>cases b
  rename_i w;cases b;have:=aZ.gN (k:=k) h x j i u e a d a a a (bC _) t;simpa[gV,LZ w,da]using this
structure l'(E:Nat)(k:m aq)(b:a6)(F':Nat->y)(x:Act):Prop where
 size:x.tmps.size=E
 defers:∃nC,i_ k b x.defers nC
 aL:∀o,bx k b (x.tmps.getD o J) (F' o)
def l'.ff{e:Nat->y}{g}(d:l' E k b e g)(i:∀a k b h,bx k b h (e a)->bx k b h (look I a)):b0 E k b I g:=
 ⟨d.size,d.defers,λa=>i a _ _ _ (d.aL a)⟩
def eS(a:Edge):Bool:=Region.binds .any a
structure q7{P:aE}(q:af P)(E:Nat)(aQ:Array an)(I:bJ)(br:Nat->m aq)(F:Nat->y)(S:Nat->bJ)(qo s:Nat->Bool)(A:Nat->Nat->Prop)(idx:Nat->Option Nat)(dD:bJ):Prop where
 kg:P.follows Departure.mixedOrders=l
 cO:∀e r,aQ[e]?=f r->∀aw∈r.after,eS aw=l->aw.on<e
 eU:∀e r O,aQ[e]?=f r->r.dst=f O->idx O=f e/\O<E
 dS:∀O e,idx O=f e->∃r,aQ[e]?=f r/\r.dst=f O
 aR:∀e,s e=v->br (e+1)=br e
 Q:∀e r,aQ[e]?=f r->qo e=v->aZ q E aQ.toList r (S e) (br e) (F e) (br (e+1))
 all:∀e r,aQ[e]?=f r->qo e=l->s e=v/\∀h,aZ q E aQ.toList r (S e) (br h) (F e) (br h)
 fp:∀L:Nat->Prop,(∀e r,aQ[e]?=f r->L e->∀aw∈r.after,eS aw=l->L aw.on)->∀e u,A e u->(L e->L u)/\∃r,aQ[e]?=f r/\((∀aw∈r.after,eS aw=l->L aw.on)->L u)
 comp:∀e aj,e<aQ.size->aj<aQ.size->s aj=l->e≠aj->qo e=v->(aj<e/\A e aj)∨(e<aj/\A aj e)
 eT:∀e r,aQ[e]?=f r->∀o k b aa,bx k b aa (match idx o with|some u=>(if ∃aw∈r.after,eS aw=l/\aw.on=u then F u else if ∃vC,aQ[u]?=f vC/\∃aw∈vC.after,eS aw=l/\aw.on=e then look I o else .any)|none=>look I o)->bx k b aa (look (S e) o)
 fin:∀o k b aa,bx k b aa (match idx o with|some u=>F u|none=>look I o)->bx k b aa (look dD o)
open Classical in
noncomputable def gG(b:bJ)(e:Nat->y)(idx:Nat->Option Nat)(L:Array Bool)(a:Nat):y:=
 match idx a with
 |some d=>if L.getD d v=l then e d else look b a
 |none=>look b a
theorem pm:e∈aN .any aQ L↔∃h,aQ[e]?=f h/\L.getD e l=v/\∀a∈h.after,eS a=l->L.getD a.on v=l:=by
 unfold aN;simp[jd,rg,ck,jc];constructor
 .rintro⟨b,C,i⟩;rw[iF b]at i;simp only[lE,h0,Array.all_eq_true',jD,jc]at i;refine⟨aQ[e],iF b,C,λa d g=>?_⟩;rcases i a d with k|k
  .unfold eS at g;grind
  grind
 rintro⟨h,b,C,i⟩;have j:e<aQ.size:=(jb.1 b).1;refine⟨j,C,?_⟩;rw[b];simp only[lE,h0,Array.all_eq_true',jD,jc];intro a d;cases g:Region.binds .any a with
 |false=>grind
 |true=>exact .inr (i a d g)
section
variable {q:af P}{dD:bJ}{br:Nat->m aq}{F:Nat->y}{S:Nat->bJ}{qo s:Nat->Bool}{A:Nat->Nat->Prop}{idx:Nat->Option Nat}
def q7.chain(j:q7 q E aQ I br F S qo s A idx dD){e}:∀{h:Nat},e<=h->(∀b,e<=b->b<h->s b=v)->br h=br e
 |0,g,_=>by grind
 |h+1,g,i=>by
  rcases dT h e with a|a
  .grind
  rw[j.aR h (i h a w),j.chain (h:=h) a (λb d k=>i b d w)]
def q7.last(j:q7 q E aQ I br F S qo s A idx dD)(C:∀p,p<aQ.size->L.getD p v=l){h}{e}{m}(k:h<=aQ.size)(K:∀i,i<aQ.size->s i=l->(L.getD i v=l↔i<h))(o:l' E (br h) b (gG I F idx L) m)(a:bc (br h) b)(g:df (br 0) e (br h) b):
  b0 E (br aQ.size) b dD m/\bc (br aQ.size) b/\df (br 0) e (br aQ.size) b:=by
 have w:br aQ.size=br h:=j.chain k (λD x y=>by grind);rw[<-w]at o a g;refine⟨o.ff λt u b B r=>j.fin t u b B ?_,a,g⟩;unfold gG at r;cases d:idx t with
 |none=>grind
 |some J=>
  simp only[d]at r⊢;obtain⟨M,z,_⟩:=j.dS _ _ d;grind
theorem my(a:e<L.size):(L.setIfInBounds e l).getD u v=l↔u=e∨L.getD u v=l:=FL
theorem xL:∀{d:m Bool}{e:Nat},d[e]?=f v->c ((d.set e l).filter (λa=>!a))+1=c (d.filter (λa=>!a))
 |[],_,b=>by grind
 |a::g,0,b=>by grind
 |a::g,e+1,b=>by simp at b;have:=xL (d:=g) b;cases a<;>simp[List.set_cons_succ]<;>omega
theorem Dh(o)(L):Region.linearise.go .any aQ 0 o L []=[]:=by simp[Region.linearise.go]
theorem vt(j o)(L):Region.linearise.go .any aQ (j+1) o L []=match(aN .any aQ L)[o % c (aN .any aQ L)]? with
  |some a=>a::Region.linearise.go .any aQ j (o / c (aN .any aQ L)) (L.setIfInBounds a l) []
  |none=>[]:=by
 simp only[Region.linearise.go]
 change (match(aN .any aQ L)[o % c (aN .any aQ L)]? with
   |some a=>Region.linearise.go .any aQ j (o / c (aN .any aQ L)) (L.setIfInBounds a l) [a]
   |none=>[].reverse)=_
 grind[linearise_go_acc]
def q7.eP(t:q7 q E aQ I br F S qo s A idx dD){ab:ai->a6->Prop}{r:aG}{z}(J:r.kind≠.early){cG}(aK:∀b d,b0 E (br aQ.size) b dD d->bc (br aQ.size) b->df (br 0) cG (br aQ.size) b->cf q ab (G (r.ab d z) ah) b):
  ∀O L,L.size=aQ.size->c (L.toList.filter (λr=>!r))<=O ->
   (∀e B,aQ[e]?=f B->L.getD e v=l->∀m∈B.after,eS m=l->L.getD m.on v=l) ->
   ∀j b d,j<=aQ.size->(∀g,g<aQ.size->s g=l->(L.getD g v=l↔g<j))->l' E (br j) b (gG I F idx L) d->bc (br j) b->df (br 0) cG (br j) b ->
   ∀k,cf q ab (G (r.ab d (.inRegion aQ (Region.linearise.go .any aQ O k L [])::z)) ah) b:=by
 have fin:∀b d,b0 E (br aQ.size) b dD d->bc (br aQ.size) b->df (br 0) cG (br aQ.size) b->cf q ab (G (r.ab d (.inRegion aQ []::z)) ah) b:=
  λb d ky j2 Ga=>.ctl j2 a (λ_=>vX) λaW aF=>aK aW d (ky.rely aF j2) (j2.rely aF) (Ga.trans aF.aU)
 intro O;induction O with
 |zero=>
  intro L aT aO K j b d bX C2 oh bP b9;have R:∀e,e<aQ.size->L.getD e v=l:=by
   intro e u;have av:L[e]'w∈L.toList:=D;cases J:L[e]'w with
   |true=>simp[hu,iF (by omega:e<L.size),J]
   |false=>
    have:L[e]'w∈L.toList.filter (λr=>!r):=jd.2 ⟨av,by grind⟩;grind
  intro k;rw[Dh];exact Ot
 |succ O aV=>
  intro L aT aO K j b d bX C2 oh bP b9;intro k;rw[vt];cases ba:(aN .any aQ L)[k % c (aN .any aQ L)]? with
  |none=>
   have aS:aN .any aQ L=[]:=by
    cases aS:aN .any aQ L with
    |nil=>rfl
    |cons bd bb=>
     grind[Nat.mod_lt]
   have R:∀e,e<aQ.size->L.getD e v=l:=by
    intro e;induction e using Nat.strongRecOn with
    |_ e a8=>
     intro u;cases J:L.getD e v with
     |true=>rfl
     |false=>
      have av:e∈aN .any aQ L:=pm.2 ⟨aQ[e],iF u,by
       grind,λm X af=>by
       have:=t.cO e _ (iF u) m X af
       grind⟩
      grind
   exact Ot
  |some e=>
   have u:=b_ ba;obtain⟨B,x,a5,aP⟩:=pm.1 u;have aE:e<aQ.size:=(jb.1 x).1;have H:¬L.getD e v=l:=M;have T:=t.fp (λV=>L.getD V v=l) K;have aC:∀i,A i e->¬L.getD i v=l:=λi an aJ=>H ((T i e an).1 aJ);have a7:∀i,A e i->L.getD i v=l:=λi an=>by grind
   have N:(L.setIfInBounds e l).size=aQ.size:=M;have a9:c ((L.setIfInBounds e l).toList.filter (λr=>!r))<=O:=by have h:L.toList[e]?=f v:=QZ;grind[xL]
   have a':∀V aA,aQ[V]?=f aA->(L.setIfInBounds e l).getD V v=l->∀m∈aA.after,eS m=l->(L.setIfInBounds e l).getD m.on v=l:=wB
   have al:b0 E (br j) b (S e) d:=oh.ff λk a_ b Z Y=>t.eT e B x k a_ b Z (by
    unfold gG at Y;cases bl:idx k with
    |none=>grind
    |some V=>
     simp only[bl]at Y⊢;split
     .grind
     .split
      .grind
      .trivial)
   have aM:∀C o Z,df (br j) b C o->bx C o Z (F e)->l' E C o (gG I F idx (L.setIfInBounds e l)) (d.put B.dst Z):=by
    intro C o Z W Y;cases aL:B.dst with
    |none=>
     refine⟨oh.size,oh.defers.imp λ_ h=>h.mono W.ext,λk=>?_⟩;have p:=(oh.aL k).mono W.ext bP.len;simp only[Act.put];unfold gG at p⊢;cases bl:idx k with
     |none=>grind
     |some V=>
      exact OU
    |some aI=>
     obtain⟨ar,a4⟩:=t.eU e B aI x aL;refine⟨by simp[Act.put,oh.size],oh.defers.imp λ_ h=>h.mono W.ext,λk=>?_⟩;simp only[Act.put];by_cases m:aI=k
     .subst m;have ax:aI<d.tmps.size:=by rw[oh.size];omega
      simp only[hu,uB ax,h0];unfold gG;simp only[ar];rw[bo ((my w).2 (.inl a))];exact Y
     have p:=(oh.aL k).mono W.ext bP.len;simp only[hu]at p⊢;rw[sw m];unfold gG at p⊢;cases bl:idx k with
     |none=>grind
     |some V=>
      exact OU
   have aY:∀y,y<=aQ.size->aZ q E aQ.toList B (S e) (br j) (F e) (br y)->(∀g,g<aQ.size->s g=l->((L.setIfInBounds e l).getD g v=l↔g<y)) ->
     cf q ab (G (r.ab d (.inRegion aQ (e::Region.linearise.go .any aQ O (k / c (aN .any aQ L)) (L.setIfInBounds e l) [])::z)) ah) b:=by intro y au aw U;have:=aw b d al bP r z ah ab e (Region.linearise.go .any aQ O (k / c (aN .any aQ L)) (L.setIfInBounds e l) []) J M;simp only[wP]at this;exact this λZ o Y aq W=>aV _ N a9 a' y o _ au U (aM _ _ _ W Y) aq (b9.trans W) _
   have same:s e=v->∀g,g<aQ.size->s g=l->((L.setIfInBounds e l).getD g v=l↔g<j):=wB;cases az:qo e with
   |true=>
    obtain⟨aR,Q⟩:=t.all e B x az;exact aY j bX (Q j) (same aR)
   |false=>
    have aD:=t.Q e B x az;have a2:br e=br j:=by
     rcases Nat.le_total j e with aH|aH
     .refine t.chain aH λi h ae=>?_;cases X:s i with
      |false=>rfl
      |true=>
       exfalso;rcases t.comp e i aE w X w az with⟨_,aa⟩|⟨aa,_⟩
       .grind
       omega
     refine(t.chain aH λi h ae=>?_).symm;cases X:s i with
     |false=>rfl
     |true=>
      exfalso;have a3:=(C2 i w X).2 ae;by_cases ao:i=e
      .grind
      rcases t.comp e i aE w X (λm=>ao m.symm) az with⟨aa,_⟩|⟨_,aa⟩
      .omega
      grind
    rw[a2]at aD;cases a0:s e with
    |false=>
     rw[t.aR e a0,a2]at aD;exact aY j bX aD (same a0)
    |true=>
     refine aY (e+1) w aD λg ag aj=>?_;rw[my w];by_cases a1:g=e
     .grind
     simp only[a1,false_or];rcases t.comp e g aE ag aj (λm=>a1 m.symm) az with⟨h,aa⟩|⟨h,aa⟩
     .grind
     grind
end
def wL(P:aE):m TypeDesc->m Field->Nat->Prop
 |[],[],_=>True
 |e::a,b::d,g=>b.name≠ "_"/\b.offset=g/\P.underlying b.type=f e/\(match e with|.int _|.string|.bool=>True|_=>False)/\wL P a d (g+1)
 |_,_,_=>False
def u2(g:Nat)(b d:Array Y)(a:Field)(_:Option Bool×Unit):Sem (ForInStep (Option Bool×Unit)):=
 if a.name= "_" then pure (ForInStep.yield (n,()))
 else do
  let e<-part a.type b a.offset;let i<-part a.type d a.offset;let h<-aL g a.type e i
  if h=v then pure (ForInStep.done (f v,()))else pure (ForInStep.yield (n,()))
def L9{P}(p)(u)(ag e):∀{h:m TypeDesc}{s:m Field}{g:Nat}{z x:m Y}{j:Bool},wL P h s g->ni h z x=f j->(∀o d,z[o]?=f d->ag[g+o]?=f d)->(∀o d,x[o]?=f d->e[g+o]?=f d) ->
  (Op.eqFields (u+1) ag e s).run P p=.ok j p/\∀b,(forIn s (n,()) (u2 (u+1) ag e)).events P p b=b
 |[],[],g,[],[],j,_,i,_,_=>by cases i;simp[Op.eqFields]
 |[],[],g,_::_,_,j,_,i,_,_=>by cases i
 |[],[],g,[],_::_,j,_,i,_,_=>by cases i
 |[],_::_,g,_,_,j,I,_,_,_=>I.elim
 |_::_,[],g,_,_,j,I,_,_,_=>I.elim
 |B::h,k::s,g,[],_,j,_,i,_,_=>by cases i
 |B::h,k::s,g,_::_,[],j,_,i,_,_=>by cases i
 |B::h,k::s,g,d::z,q::K,j,⟨O,U,J,V,G⟩,i,y,N=>by
  simp[ni]at i;cases w:rz B d q with
  |none=>grind
  |some C=>
   cases R:ni h z K with
   |none=>grind
   |some W=>
    simp[w,R]at i;subst i;obtain⟨aa,Z⟩:=L9 p u ag e G R (λo d H=>by have:=y (o+1) d M;grind) (λo d H=>by have:=N (o+1) d M;grind);have E:ag[g]?=f d:=by simpa using y 0 d a
    have D:e[g]?=f q:=by simpa using N 0 q a
    have S:(isAgg k.type).run P p=.ok v p:=by unfold isAgg underlying;cases B<;>simp at V<;>simp[J]
    have A:∀r t,r[g]?=f t->(part k.type r k.offset).run P p=.ok t p:=by intro r t F;unfold part;simp[S,U,F]
    have T:∀r t,r[g]?=f t->∀b,(part k.type r k.offset).events P p b=b:=by intro r t F b;unfold part;simp[S,U,F]
    have X:∀b,(aL (u+1) k.type d q).events P p b=b:=by
     intro b;unfold rz at w;split at w<;>first
      |(cases w;done)
      |(unfold aL;simp[underlying,J];done)
      |(unfold aL;simp[underlying,J];split<;>rfl)
    have Q:(aL (u+1) k.type d q).run P p=.ok C p:=by unfold rz at w;grind[run_equalIn_int,run_equalIn_string,run_equalIn_bool]
    refine⟨?_,λb=>?_⟩
    .rw[Op.eqFields.eq_2,bo O];simp[cJ,A ag d E,A e q D,Q,c8];cases C
     .simp
     grind
    rw[List.forIn_cons];simp[u2,O,dm,aD,cJ,A ag d E,A e q D,Q,c8,aF,T ag d E,T e q D,X];cases C
    .simp
    simpa using Z b
def YL{e:m Field}{bh}(i:P.underlying o=f (.struct e.toArray))(k:P.stoodInHeld o=v)(u:P.eqGuardType P.depth o=v)(p:wL P bh e 0):
  P.eqGuardType P.depth o=v/\∀d z b g,ni bh z b=f g->(Op.equal o (.agg z.toArray) (.agg b.toArray)).run P d=.ok g d/\∀a,(Op.equal o (.agg z.toArray) (.agg b.toArray)).events P d a=a:=by
 refine⟨u,λd z b g r=>?_⟩;have y:P.fieldsOf o=e.toArray:=by unfold Program.fieldsOf;rw[i]
 have key:=L9 d 9998 z.toArray b.toArray p r (λt x q=>by grind) (λt x q=>by grind);refine⟨?_,λa=>?_⟩
 rotate_left
 .show (aL (9999+1) o _ _).events P d a=a;have s:=key.2 a;unfold aL;simp[underlying,i,k];show Result.evThen ((forIn e (n,()) (u2 9999 z.toArray b.toArray)).run P d) ((forIn e (n,()) (u2 (9998+1) z.toArray b.toArray)).events P d a) _=a;rw[s];cases(forIn e (n,()) (u2 9999 z.toArray b.toArray)).run P d with
  |ok j h=>obtain⟨w,_⟩:=j;cases w<;>rfl
  |halt A h=>rfl
 show(aL (9999+1) o _ _).run P d=_;grind[run_equalIn_agg]
def qf:m TypeDesc->m R->m R->Option Bool
 |[],[],[]=>f l
 |.int _::b,.c (.int j e)::a,.c (.int i g)::d=>match s0 j i with
  |true=>match qf b a d with
   |some h=>f ((e==g)&&h)
   |none=>n
  |false=>n
 |.string::b,.c (.T e)::a,.c (.T g)::d=>match qf b a d with
  |some h=>f ((e==g)&&h)
  |none=>n
 |.bool::b,.c (.bool e)::a,.c (.bool g)::d=>match qf b a d with
  |some h=>f ((e==g)&&h)
  |none=>n
 |_,_,_=>n
def Ce:∀{i:m TypeDesc}{g j:m R}{A:Bool}{z a:m Y},qf i g j=f A->bM k b z g->bM k b a j->ni i z a=f A:=by
 intro i;induction i with
 |nil=>
  intro g j A z a o r q;cases g<;>cases j<;>simp only[qf,reduceCtorEq]at o
  cases z<;>cases a<;>first|exact r.elim|exact q.elim|exact cS
 |cons J i s=>
  intro g j A z a o r q;unfold qf at o;split at o
  .grind
  .rename_i d u h t B I e dG heq;cases heq;split at o
   .rename_i bX;cases C9 bX;split at o
    .rename_i D C;cases o;cases z with
     |nil=>exact r.elim
     |cons x z=>cases a with
      |nil=>exact q.elim
      |cons y a=>
       obtain⟨p,w⟩:=r;obtain⟨w1,w2⟩:=q;cases(show Rd b.D x (.int h t)from p);cases(show Rd b.D y (.int h e)from w1);simp[ni,rz,s C w w2]
    grind
   grind
  .rename_i u t B e dG heq;cases heq;split at o
   .rename_i D C;cases o;cases z with
    |nil=>exact r.elim
    |cons x z=>cases a with
     |nil=>exact q.elim
     |cons y a=>
      obtain⟨p,w⟩:=r;obtain⟨w1,w2⟩:=q;cases(show Rd b.D x (.T t)from p)with
      |T E _=>
      cases(show Rd b.D y (.T e)from w1)with
      |T F _=>
      simp[ni,rz,s C w w2];grind[ByteArray.toList_eq]
   grind
  .rename_i u t B e dG heq;cases heq;split at o
   .rename_i D C;cases o;cases z with
    |nil=>exact r.elim
    |cons x z=>cases a with
     |nil=>exact q.elim
     |cons y a=>
      obtain⟨p,w⟩:=r;obtain⟨w1,w2⟩:=q;cases(show Rd b.D x (.bool t)from p);cases(show Rd b.D y (.bool e)from w1);simp[ni,rz,s C w w2]
   grind
  grind
section
variable {ac:m (Nat×cp)}
def h9:BinOp->Bool->Option Bool
 |.eql,a=>f a
 |.neq,a=>f (!a)
 |_,_=>n
def GH{F bF}{i s}(O:match F,bF with|.agg _,.agg _=>True|.bool _,.bool _=>True|_,_=>False)(x:(Op.equal o F bF).run P p=.ok i p)(t:h9 op i=f s):
  (binOp op o F bF).run P p=.ok (.bool s) p:=by
 cases op<;>simp[h9,reduceCtorEq,e3]at t
 .exact Qu
 exact Qu
def IH{F bF}{i s}(b:match F,bF with|.agg _,.agg _=>True|.bool _,.bool _=>True|_,_=>False)(e:(Op.equal o F bF).run P p=.ok i p)(a:∀V,(Op.equal o F bF).events P p V=V)(d:h9 op i=f s)(V):
  (binOp op o F bF).events P p V=V:=by cases op<;>simp[h9,reduceCtorEq,e3]at d<;>(cases F<;>cases bF<;>simp only at b<;>simp[binOp,a])
def UQ(op)(o)(d e)(ag a)(p)(b:P.eqGuardType P.depth o=v)(V):(eqGuard op o d e (.agg ag) (.agg a)).events P p V=V:=by cases op<;>simp[eqGuard,b]
theorem a1.j7(aY:b2 P ac){F bF:ae}(w:r.op=.binOp op o F bF ty){e}(p:bZ ac o=f e)(E:e.eq≠[]){ah V}{i s}(J:η F=.n (.agg ah))(I:η bF=.n (.agg V))(q:qf e.eq ah V=f i)(A:h9 op i=f s):a1 P r η k (ax (.bool s)) k:=by refine .aR λa K D g=>?_;have b:=g F;have d:=g bF;rw[J]at b;rw[I]at d;obtain⟨z,y,m⟩:=b;obtain⟨h,x,j⟩:=d;obtain⟨t,heq⟩:=(aY o e p).iJ E;have u:=GH (F:=.agg z.toArray) (bF:=.agg h.toArray) B (heq a.a z h i (Ce q m j)).1 A;have C:=IH (F:=.agg z.toArray) (bF:=.agg h.toArray) B (heq a.a z h i (Ce q m j)).1 (heq a.a z h i (Ce q m j)).2 A;refine⟨.bool s,?_,Rd.bool,by simp[ab,w,y,x,aD,run_eqGuard_agg a.a op o F bF _ _ t,UQ op o F bF _ _ a.a t,aF,cJ,c8,u,C,Sem.events_pure]⟩;simp[ab,w,y,x,cJ,run_eqGuard_agg a.a op o F bF _ _ t,c8,u,dY]
theorem a1.iu(aY:b2 P ac){F bF:ae}(x:r.op=.binOp op o F bF ty){e}(q:bZ ac o=f e)(E:e.desc=.bool){g i s}(J:η F=ax (.bool g))(I:η bF=ax (.bool i))(z:h9 op (g==i)=f s):a1 P r η k (ax (.bool s)) k:=by
 refine .aR λh m C j=>?_;have b:=j F;have d:=j bF;rw[J]at b;rw[I]at d;replace b:=b7 b;replace d:=b7 d;generalize w:m F=K at b;generalize y:m bF=M at d;cases b;cases d;have t:P.underlying o=f .bool:=by rw[(aY o e q).eb,E]
 have u:=GH (P:=P) (p:=h.a) (F:=.bool g) (bF:=.bool i) B (run_equal_bool h.a o g i t) z;have D:∀a,(Op.equal o (.bool g) (.bool i)).events P h.a a=a:=λa=>by show(aL (9999+1) o _ _).events P h.a a=a;unfold aL;simp[underlying,t]
 have A:=IH (P:=P) (p:=h.a) (F:=.bool g) (bF:=.bool i) B (run_equal_bool h.a o g i t) D z;refine⟨.bool s,?_,Rd.bool,by simp[ab,x,w,y,aD,eqGuard_at_bool,Sem.events_pure,dY,aF,cJ,c8,u,A]⟩;simp[ab,x,w,y,cJ,eqGuard_at_bool,dY,c8,u]
def a1.j_{m p:ae}(t:r.op=.binOp .xor o m p ty){a i}(C:η m=ax (.int .i64 a))(B:η p=ax (.int .i64 i))(J:0<=a)(x:0<=i):
  a1 P r η k (ax (.int .i64 ((a.toNat ^^^ i.toNat:Nat):Int))) k:=by
 refine .aR λu j y h=>?_;have b:=h m;have d:=h p;rw[C]at b;rw[B]at d;replace b:=b7 b;replace d:=b7 d;generalize q:j m=D at b;generalize s:j p=E at d;cases b with|int e=>
 cases d with|int g=>
 have I:a.toNat ^^^ i.toNat<2 ^ 63:=by apply Nat.xor_lt_two_pow<;>simp[a7]at e g<;>omega
 have z:a7 .i64 ((a.toNat ^^^ i.toNat:Nat):Int):=cS;refine⟨.int .i64 ((a.toNat ^^^ i.toNat:Nat):Int),?_,.int z,?_⟩
 rotate_left
 .simp only[ab,t,q,s,aD,qg,x3,aF,Go.binOp,dZ,hv,dm,Op.intBits,cJ,c8,dY,Sem.events_pure]
 have w:((BitVec.ofInt 64 a) ^^^ (BitVec.ofInt 64 i)).toNat=a.toNat ^^^ i.toNat:=by rw[BitVec.toNat_xor,BitVec.toNat_ofInt,BitVec.toNat_ofInt];simp[a7]at e g;congr 1<;>omega
 have F:(BitVec.ofInt IntKind.i64.bits a ^^^ BitVec.ofInt IntKind.i64.bits i).toNat=a.toNat ^^^ i.toNat:=w;have A:(Go.binOp .xor o (.int .i64 a) (.int .i64 i)).run P u.a=.ok (.int .i64 ((a.toNat ^^^ i.toNat:Nat):Int)) u.a:=by simp only[Go.binOp,dZ,hv,dm,Op.intBits,dY];grind[r5]
 simp only[ab,t,q,s,cJ,qg,c8,A,dY]
def a1.iB(aY:b2 P ac){e dst:al}{m:ae}(U:r.op=.convert e dst m){O S h:cp}(I:bZ ac e=f O)(R:bZ ac dst=f S)(aa:O.desc=.slice W)(ao:S.desc=.string)(L:bZ ac W=f h)(ar:h.desc=.int .u8){eO}{u}(af:∀d T,bx k d T (η m)->Rd d.D T (.B eO 1 j V))(F:uO V 0 j=f u):a1 P r η k (ax (.T u)) k:=by
 refine .dt λd au s K=>?_;have g:=af d _ (K m);obtain⟨z,H,i⟩:=oA (P:=P) s g;obtain⟨B,o,aA,t,av,az,_⟩:=g.bZ;have G:j<=9223372036854775807:=w;have aq:c z=j:=by rw[H.len];omega
 obtain⟨x,D,ah⟩:=GY (bB:=d.D) (z:=z) F aq (λaj J ag aC=>by
  obtain⟨T,aM,an⟩:=H.rd aj J 0 ag M
  grind)
 have y:=(aY e O I).run_underlying (p:=d.a);have E:=(aY dst S R).run_underlying (p:=d.a);have Q:=(aY W h L).run_underlying (p:=d.a);rw[aa]at y;rw[ao]at E;rw[ar]at Q;have Z:c u<=9223372036854775807:=M;have ai:∃A:ByteArray,(Conv.bytesToString (.slice B j o)).run P d.a=.ok (.string A) d.a/\A.data.toList=u:=by
  cases B with
  |none=>
   have aw:u=[]:=by
    have:z=[]:=by rw[t]at i;have b:=i.1;simp[Builtin.firstCells]at b;grind
    grind
   exact⟨ByteArray.empty,by simp[Conv.bytesToString],by exact bv⟩
  |some C=>
   rw[t]at i;have b:=i.1;simp[Builtin.firstCells,Nat.mul_one]at b;refine⟨⟨#[]++(x.map λm=>UInt8.ofNat m.toNat).toArray⟩,?_,by grind⟩;simp only[Conv.bytesToString,cJ,b,c8,D];rw[List.forIn_toArray,L_ (P:=P) d.a (λ_ _=>rfl) x ByteArray.empty];rfl
 obtain⟨A,Y,N⟩:=ai;refine⟨.string A,?_,Rd.T N Z,?_⟩
 rotate_left
 .intro aE q;simp only[ab,U,t,aD,convert,y,E,aF,c8,Q,Y,cJ,events_underlying,Sem.events_pure]at q;cases B with
  |none=>simp[Conv.bytesToString]at q
  |some C=>
   have X:=sN (P:=P) s (g.cA (λ_ _=>rfl)) (p:=d.a) a;rw[t]at i X;have b:=i.1;simp only[Builtin.firstCells,Nat.mul_one]at b X;unfold Conv.bytesToString at q;simp only at q;rw[aD,b,aF,dz.bind (P:=P) ?_ λ_=>.pure]at q
   .grind [tm]
   rw[List.forIn_toArray];refine dz.g8 (λm d=>?_) _ _;split
   .exact .pure
   exact .bind .stuck λ_=>.pure
 simp only[ab,U,t,cJ,convert,y,E,c8,Q,Y,dY]
end
def ru(a:ae->y):m ae->Option (m N)
 |[]=>f []
 |g::e=>match a g with
  |.n (.Q (.c b))=>match ru a e with
   |some d=>f (b::d)
   |none=>n
  |_=>n
def BU{k}{b}{e:ae->Y}{i:ae->y}(p:∀s,bx k b (e s) (i s)):∀{d:m ae}{a:m N},ru i d=f a->c d=c a/\∀(h:Nat)j,a[h]?=f j->∃q,(d.map e)[h]?=f q/\Rd b.D q j
 |[],a,g=>by cases g;grind
 |r::B,a,g=>by
  simp[ru]at g;split at g
  .rename_i j u;split at g
   .rename_i A t;cases g;obtain⟨x,w⟩:=BU p t;refine⟨by grind,λh z o=>?_⟩;cases h with
    |zero=>
     simp at o;subst o;have:=p r;rw[u]at this;exact⟨e r,by simp,b7 this⟩
    |succ h=>grind
   grind
  grind
section
variable {ac:m (Nat×cp)}
theorem a1.makeFunc{fn}{b i}(m:r.op=.makeFunc fn b i){j h}(q:ru η b.toList=f j)(e:ru η i.toList=f h):a1 P r η k (ax (.fn fn j h)) k:=by
 refine .aR λy a s d=>?_;obtain⟨o,p⟩:=BU d q;obtain⟨w,x⟩:=BU d e;have t:b.map a=(b.toList.map a).toArray:=M;have u:i.map a=(i.toList.map a).toArray:=M;refine⟨.func fn (b.toList.map a).toArray (i.toList.map a).toArray,?_,?_,by simp only[ab,m,Instr.makeFunc];rfl⟩
 .simp only[ab,m,Instr.makeFunc,t,u];rfl
 refine Rd.fn _ _ M M (λg=>((b.toList.map a)[g]?).getD J) (λg=>((i.toList.map a)[g]?).getD J) M M M ?_;grind
def vo:TypeDesc->Bool
 |.interface _=>l
 |_=>v
def yJ(b:al):y->Option N
 |.n (.Q (.c d))=>f (.cf b d)
 |.n (.agg a)=>match h3 a with
  |some e=>f (.cE b e)
  |none=>n
 |_=>n
def aaa{g}{s}(a:yJ o g=f s)(d:bx k b aa g):Rd b.D (.iface o aa) s:=by
 unfold yJ at a;split at a
 .cases a;exact Rd.cf (b7 d) (b7 d).cell
 .split at a
  .rename_i q h;cases a;obtain⟨z,rfl,j⟩:=d;have e:=rv h j;refine Rd.cE (by have:=e.cJ;grind) (λu=>(z[u]?).getD J) (λu i=>by grind) λu s i=>?_;obtain⟨aa,p,m⟩:=e.get (u:=u) (x:=.c s) M;rw[p];exact m
  grind
 grind
theorem a1.makeInterface(aY:b2 P ac){o}{b}(m:r.op=.makeInterface o b){e}(g:bZ ac o=f e)(a:vo e.desc=v){s}(q:yJ o (η b)=f s):a1 P r η k (ax s) k:=by
 refine .aR λu i t h=>?_;have j:=(aY o e g).run_underlying (p:=u.a);refine⟨.iface o (i b),?_,aaa q (h b),?_⟩
 rotate_left
 .simp only[ab,m,Instr.makeInterface,aD,cJ,j,aF,c8,events_underlying];cases d:e.desc<;>rw[d]at a<;>first|(cases a;done)|simp
 simp[ab,m,Instr.makeInterface,cJ,j,c8];cases d:e.desc<;>rw[d]at a<;>first|(cases a;done)|simp
def tR(a:cp):Option E1:=match a.agg with
 |true=>f (.agg (a.zero.map R.c))
 |false=>n
def aeL{e}(p:eJ P o e){j}(g:tR e=f j):∃a,(zeroValue o).run P b.a=.ok a b.a/\ez k b a j:=by
 obtain⟨a,u,i⟩:=p.hN k b;refine⟨a,u,?_⟩;obtain⟨w,m,t,x,A,s,y,⟨h,d⟩,z⟩:=p.cX;have q:m=a:=by
  have:(zeroValue o).run P b.a=.ok m b.a:=by simp[zeroValue,typeInfo,t,s]
  grind
 subst q;unfold tR at g;cases r:e.agg with
 |true=>
  rw[r]at g d;simp[dv]at d;cases g;rw[d]at i⊢;exact⟨h.toList,by simp,by simpa[Value.cells]using i⟩
 |false=>grind
def sy(g:al)(e:cp):N->Option (E1×Bool)
 |.cf a h=>match ad a g with
  |true=>f (.Q (.c h),l)
  |false=>match tR e with
   |some b=>f (b,v)
   |none=>n
 |.cE a d=>match ad a g with
  |true=>f (.agg (d.map R.c),l)
  |false=>match tR e with
   |some b=>f (b,v)
   |none=>n
 |.bD=>match tR e with
  |some b=>f (b,v)
  |none=>n
 |_=>n
theorem a1.typeAssert(aY:b2 P ac){T}{Q o}(aa:r.op=.typeAssert T Q o l){e}(N:bZ ac o=f e)(y:vo e.desc=v){s}(H:η T=ax s){x}{i}(h:sy o e s=f (x,i)):
  a1 P r η k (.S [x,.Q (.c (.bool i))]) k:=by
 refine .aR λb w ah V=>?_;have j:=V T;rw[H]at j;replace j:=b7 j;generalize af:w T=A at j;have F:=(aY o e N).run_underlying (p:=b.a);have key:∀q i,(Instr.typeAssert A Q o l).run P b.a=.ok (.tuple #[q,.bool i]) b.a->ez k b q x->(Instr.typeAssert A Q o l).events P b.a #[]=#[]->∃q,(ab w r).run P b.a=.ok (.value q) b.a/\bx k b q (.S [x,.Q (.c (.bool i))])/\(ab w r).events P b.a #[]=#[]:=by intro q i j C m;refine⟨.tuple #[q,.bool i],?_,⟨[q,.bool i],a,C,Rd.bool,B⟩,by simp[ab,aa,af,aD,j,m,aF,Sem.events_pure]⟩;simp[ab,aa,af,cJ,j,c8,dY]
 have fail:∀I,tR e=f I->(∀J,(zeroValue o).run P b.a=.ok J b.a->(Instr.typeAssert A Q o l).run P b.a=.ok (.tuple #[J,.bool v]) b.a/\(Instr.typeAssert A Q o l).events P b.a #[]=#[])->x=I->i=v->∃q,(ab w r).run P b.a=.ok (.value q) b.a/\bx k b q (.S [x,.Q (.c (.bool i))])/\(ab w r).events P b.a #[]=#[]:=by intro I D al aj g;subst aj g;obtain⟨J,m,ao⟩:=aeL (k:=k) (aY o e N) (b:=b) D;grind
 have E:∀ae,e.desc≠.interface ae:=by intro ae x;rw[x]at y;cases y
 cases j with
 |@cf u q s C ag=>
  simp[sy]at h;cases g:ad u o with
  |true=>
   rw[g]at h;cases h;have U:=dn g;subst U;refine key q l ?_ C ?_<;>
   .unfold Instr.typeAssert;simp only[cJ,F,c8,aD,aF,events_underlying];cases t:e.desc<;>first|(exact absurd t (E _))|simp
  |false=>
   rw[g]at h;have X:u≠o:=λx=>by grind[Nat.beq_refl]
   simp only at h;split at h
   .rename_i I D;cases h;refine fail _ D (λJ m=>⟨?_,?_⟩) a a<;>
    .unfold Instr.typeAssert;simp only[cJ,F,c8,aD,aF,events_underlying];cases t:e.desc<;>first|(exact absurd t (E _))|simp[X,m]
   grind
 |@cE u z d O aq an G=>
  simp only[sy]at h;cases g:ad u o with
  |true=>
   rw[g]at h;cases h;have U:=dn g;subst U;refine key (.agg z.toArray) l ?_ ⟨z,a,?_⟩ ?_
   rotate_left 2
   .unfold Instr.typeAssert;simp only[F,aD,aF,events_underlying];cases t:e.desc<;>first|(exact absurd t (E _))|simp
   .unfold Instr.typeAssert;simp only[cJ,F,c8];cases t:e.desc<;>first|(exact absurd t (E _))|simp
   have go:∀z d,c z=c d->(∀(S:Nat) s,d[S]?=f s->∃q,z[S]?=f q/\Rd b.D q s)->bM k b z (d.map R.c):=by
    intro z;induction z with
    |nil=>intro d O _;cases d with|nil=>trivial|cons _ _=>grind
    |cons q z W=>
     intro d O K;cases d with
     |nil=>grind
     |cons s d=>
      obtain⟨ar,Z,Y⟩:=K 0 s rfl;simp at Z;subst Z;exact⟨Y,W d M (λS s ai=>by simpa using K (S+1) s M)⟩
   grind
  |false=>
   rw[g]at h;have X:u≠o:=λx=>by grind[Nat.beq_refl]
   simp only at h;split at h
   .rename_i I D;cases h;refine fail _ D (λJ m=>⟨?_,?_⟩) a a<;>
    .unfold Instr.typeAssert;simp only[cJ,F,c8,aD,aF,events_underlying];cases t:e.desc<;>first|(exact absurd t (E _))|simp[X,m]
   grind
 |bD=>
  simp only[sy]at h;split at h
  .rename_i I D;cases h;refine fail _ D (λJ m=>⟨?_,?_⟩) a a<;>
   .unfold Instr.typeAssert;simp only[cJ,F,c8,aD,aF,events_underlying];cases t:e.desc<;>first|(exact absurd t (E _))|simp[m]
  grind
 |_=>simp[sy]at h
end
def uJ(e:BinOp)(g:IntKind)(d:Int)(b:IntKind)(a:Int):Option (Int×m Prop):=
 match g with
 |.u64=>match e with
  |.shl=>f (((d.toNat*2 ^ a.toNat % 18446744073709551616:Nat):Int),[0<=a,a<=64])
  |.shr=>f (((d.toNat / 2 ^ a.toNat:Nat):Int),[0<=a,a<=64])
  |.and=>match b with|.u64=>f (((d.toNat &&& a.toNat:Nat):Int),[])|_=>n
  |.xor=>match b with|.u64=>f (((d.toNat ^^^ a.toNat:Nat):Int),[])|_=>n
  |_=>n
 |_=>n
section
variable {ac:m (Nat×cp)}
theorem GK{a}(b:a7 .u64 a):(BitVec.ofInt IntKind.u64.bits a).toNat=a.toNat:=by rw[BitVec.toNat_ofInt];simp[a7]at b;simp[IntKind.bits];omega
def abv{h d}{a i s}(o)(b:uJ op h a d i=f (s,cn))(e:U cn)(g:a7 h a)(q:a7 d i)(p):
  a7 h s/\(Go.binOp op o (.int h a) (.int d i)).run P p=.ok (.int h s) p/\(Go.binOp op o (.int h a) (.int d i)).events P p #[]=#[]:=by
 unfold uJ at b;split at b
 .split at b
  .cases b;obtain⟨m,k⟩:0<=i/\i<=64:=e;have x:a.toNat*2 ^ i.toNat % 18446744073709551616<18446744073709551616:=pY _ ca;simp[a7]at g;refine⟨by simp[a7];omega,?_⟩;have t:IntKind.wrap .u64 (a*2 ^ (min i.toNat IntKind.u64.bits))=((a.toNat*2 ^ i.toNat % 18446744073709551616:Nat):Int):=by have j:min i.toNat IntKind.u64.bits=i.toNat:=RF;have r:a=(a.toNat:Int):=w;rw[j,r];simp only[IntKind.wrap,IntKind.bits,IntKind.signed,cY];grind
   exact PF
  .cases b;obtain⟨m,k⟩:0<=i/\i<=64:=e;simp[a7]at g;have u:a.toNat / 2 ^ i.toNat<=a.toNat:=Nat.div_le_self _ _;refine⟨by simp[a7];grind,?_⟩;have t:a.fdiv (2 ^ (min i.toNat IntKind.u64.bits))=((a.toNat / 2 ^ i.toNat:Nat):Int):=by have j:min i.toNat IntKind.u64.bits=i.toNat:=RF;grind
   exact PF
  .split at b
   .cases b;have k:a.toNat &&& i.toNat<=a.toNat:=Nat.and_le_left;have O:a7 .u64 ((a.toNat &&& i.toNat:Nat):Int):=by simp[a7]at g⊢;omega
    refine⟨O,?_⟩;have aw:(BitVec.ofInt IntKind.u64.bits a &&& BitVec.ofInt IntKind.u64.bits i).toNat=a.toNat &&& i.toNat:=by grind[GK]
    exact PJ
   grind
  .split at b
   .cases b;have O:a7 .u64 ((a.toNat ^^^ i.toNat:Nat):Int):=by simp[a7]at g q⊢;have:a.toNat ^^^ i.toNat<2 ^ 64:=Nat.xor_lt_two_pow w w;omega
    refine⟨O,?_⟩;have aw:(BitVec.ofInt IntKind.u64.bits a ^^^ BitVec.ofInt IntKind.u64.bits i).toNat=a.toNat ^^^ i.toNat:=by grind[GK]
    exact PJ
   grind
  grind
 grind
theorem a1.bits{j m:ae}{h e}{u i s}(z:r.op=.binOp op o j m ty)(F:η j=ax (.int h u))(D:η m=ax (.int e i))(C:uJ op h u e i=f (s,cn))(t:U cn):
  a1 P r η k (ax (.int h s)) k:=by
 refine .aR λI g A d=>?_;have a:=d j;have b:=d m;rw[F]at a;rw[D]at b;replace a:=b7 a;replace b:=b7 b;generalize w:g j=J at a;generalize x:g m=K at b;cases a with|int p=>
 cases b with|int q=>
 obtain⟨E,y,B⟩:=abv (P:=P) o C t p q I.a;exact⟨.int h s,by simp[ab,z,cJ,w,x,qg,c8,y,dY],.int E,by simp[ab,z,w,x,qg,x3,y,B]⟩
end
def l5(e:Nat)(a:m N)(b:Nat->m N):Nat->m N:=λd=>if d=e then a else b d
def nM(e b:Nat)(g:m N)(a:Nat->m N):Nat->m N:=λd=>if e<=d/\d<b then g else a d
section
variable {ac:m (Nat×cp)}{C:Nat}{h:Nat}
def GU(B:bc k b)(q:k[d]?=f (.q W h j V)){m r}(x:cA k b aa (.O d (.bt C m e r)))(E:C=j):
  ∃g i z a,b.t[d]?=f ⟨.slice (f ⟨g,0,n⟩) 0 i,[g]⟩/\aa=.pointer (f ⟨g,e*m+r,n⟩)/\b.a.heap[g]?=f (.cells (z++a).toArray W (0,0))/\c (z++a)=i*h/\j<=i/\i<=9223372036854775807/\eX b.D h j V z/\∀w,b.D g w=n:=by
 obtain⟨J,⟨g,i,t,y⟩,_,R⟩:=x;obtain⟨L,s,p⟩:=(R _ _ _ _ q).2 E;rw[t]at p;rcases B.box d _ L q s with⟨_,rfl⟩|⟨N,g7,z,a,rfl,F,o,I,u,D,A⟩
 .cases p
 cases p;exact⟨g,i,z,a,s,y,F,o,I,u,D,A⟩
def DZ{C:Nat->Y}:∀{bh:m N}{A:Nat},(∀d e,bh[d]?=f e->Rd b.D (C (A+d)) e)->bM k b ((aB (c bh)).map λd=>C (A+d)) (bh.map R.c)
 |[],A,_=>trivial
 |h::bh,A,g=>by rw[fh,wS];refine⟨g 0 h a,?_⟩;have:=DZ (bh:=bh) (A:=A+1) (λd e i=>by have:=g (d+1) e M;rwa [show A+1+d=A+(d+1) by omega]);grind[Function.comp_def]
theorem a1.jd(aY:b2 P ac){i j:ae}(O:r.op=.indexAddr o i j){e a4}(m:bZ ac o=f e)(N:e.desc=.slice W)(y:bZ ac W=f a4){t}{u}{q}(H:η i=cC d (.B C a4.size t A))(I:η j=ax (.int q u))(af:0<=u)(Q:u<A):a1 P r η k (cC d (.bt C a4.size (t+u.toNat) 0)) k:=by
 refine .aR λF g S b=>?_;have E:=b i;rw[H]at E;have a:=b j;rw[I]at a;replace a:=b7 a;generalize R:g j=Y at a;cases a;have D:=E;change cA k F (g i) (.O d _)at D;obtain⟨s,⟨ag,M,B,K,J,L,G,aa,Z,V⟩,U,T⟩:=D;obtain⟨z,rfl,rfl⟩:=V w;have x:=(aY o e m).run_underlying (p:=F.a);rw[N]at x;obtain⟨h,rfl⟩:∃h:Nat,u=h:=⟨u.toNat,by omega⟩
 have X:h<A:=w;refine⟨.pointer (f ⟨z,(t+h)*a4.size,n⟩),?_,⟨s,⟨z,K,Z,by simp⟩,U,T⟩,?_⟩<;>
 simp[ab,O,J,R,Instr.indexAt,asIntOf,x,(aY W a4 y).ba,g0,X,jE]
def a1.iO(aY:b2 P ac){b:ae}{q}(s:r.op=.fieldAddr o b q){A i}{u}(F:η b=cC d (.bt C A e i))(t:lc ac o q=f (off,u)):a1 P r η k (cC d (.bt C A e (i+off))) k:=by refine .aR λD j z g=>?_;have a:=g b;rw[F]at a;have m:=a;change cA k D (j b) (.O d _)at m;obtain⟨h,⟨p,E,B,w⟩,y,x⟩:=m;exact⟨.pointer (f ⟨p,e*A+i+off,n⟩),by simp[ab,s,w,zb aY t],⟨h,⟨p,E,B,by grind⟩,y,x⟩,by simp[ab,s,w,x4 aY t]⟩
theorem a1.jz{b:ae}(o:r.op=.nilCheck b){m p}(u:η b=cC d (.bt C m e p)):a1 P r η k (cC d (.bt C m e p)) k:=by refine .aR λw g s h=>?_;have a:=h b;rw[u]at a;have q:=a;have i:=a;change cA k w (g b) (.O d _)at i;obtain⟨t,⟨x,B,A,j⟩,z,y⟩:=i;exact⟨g b,by simp[ab,o,j],q,by simp[ab,o,j]⟩
theorem a1.ji(aY:b2 P ac){b:ae}(w:r.op=.call {callee:=.builtin .len,args:=#[b],argTypes:=dr})(R:dr[0]?=f o){e}(g:bZ ac o=f e)(u:e.desc=.slice W){E B}(N:η b=cC d (.B C E B A)):a1 P r η k (ax (.int .i64 A)) k:=by
 refine .aR λs i x h=>?_;have a:=h b;rw[N]at a;have j:=a;change cA k s (i b) (.O d _)at j;obtain⟨z,⟨I,t,m,y,D,S,O,F,Q,M⟩,K,J⟩:=j;have q:=(aY o e g).run_underlying (p:=s.a);rw[u]at q;refine⟨.int .i64 A,?_,Rd.int cS,?_⟩<;>
 simp[ab,w,resolve,invoke,builtin,Builtin.len_,D,q,goInt,R]
theorem a1.sliceB(aY:b2 P ac){x:ae}{e6 bp}(K:r.op=.slice o x e6 bp n){e a4}(X:bZ ac o=f e)(N:e.desc=.slice W)(y:bZ ac W=f a4){O}{j u}(H:η x=cC d (.B C a4.size O A))(s:kC η e6=f j)(R:kC η bp=f u)(t:U (jh A j u)):a1 P r η k (cC d (.B C a4.size (O+bV 0 j) (bV A u-bV 0 j))) k:=by
 refine .aR λg E S b=>?_;have m:=b x;rw[H]at m;have J:=m;change cA k g (E x) (.O d _)at J;obtain⟨D,⟨I,z,h,Q,F,M,af,aa,Z,Y⟩,V,T⟩:=J;obtain⟨q,ag,G⟩:=vT (P:=P) (ki:=l) M (j9 b s) (j9 b R) t g.a;have B:=(aY o e X).run_underlying (p:=g.a);rw[N]at B;refine⟨.slice (if h=bV 0 j then I else I.map (·.add (bV 0 j*a4.size))) (bV A u-bV 0 j) (h-bV 0 j),?_,⟨D,⟨_,z,_,Q,a,by omega,by omega,aa,Z,λah=>?_⟩,V,T⟩,by simp[ab,K,F,Instr.sliceAt,B,Instr.slice,q,u5 (P:=P) (ki:=l) M (j9 b s) (j9 b R) t g.a]⟩
 .simp[ab,K,F,Instr.sliceAt,B,Instr.slice,q,(aY W a4 y).ba]
 obtain⟨i,rfl,rfl⟩:=Y w;exact Qy
def a1.e7(aY:b2 P ac){K:ae}(T:r.op=.load o K){m}{B}{aw}(ag:η K=cC d (.bt C h e m))(x:C=j)(F:k[d]?=f (.q W h j V))(w:bZ ac o=f B)(Q:hh B ((f_ m (V e)).map R.c)=f aw)(Z:e<j):a1 P r η k (.n aw) k:=by
 refine .dt λb O E I=>?_;have u:=I K;rw[ag]at u;obtain⟨i,au,z,aq,af,G,ah,H,an,L,y,ao⟩:=GU E F u x;have aM:=y.bF e Z;let C:Nat->Y:=λa=>z.getD (e*h+a) J;have x:∀a q,(f_ m (V e))[a]?=f q->z[e*h+(m+a)]?=f (C (m+a))/\Rd b.D (C (m+a)) q:=by intro a q g;rw[ry,pX]at g;obtain⟨s,al,ar⟩:=y.rd e Z (m+a) q g;grind
 have N:=DZ (k:=k) (b:=b) (C:=C) (bh:=f_ m (V e)) (A:=m) (λa q g=>(x a q g).2);have S:∀a s,((aB (c (f_ m (V e)))).map λa=>C (m+a))[a]?=f s->b.a.cell? ⟨i,e*h+m+a,n⟩=f s:=by
  intro a s g;simp[m']at g;by_cases U:a<c (f_ m (V e))
  .simp[U]at g;subst g;have ai:=(x a _ (bH U)).1;simp[aH,ah];grind
  grind
 obtain⟨s,X,aa⟩:=ts (b:=b) (k:=k) (P:=P) (aY o B w) (i:=i) (off:=e*h+m) (aw:=aw) S N Q;refine⟨s,by simp[ab,T,G,Instr.loadAt,Instr.sureAddr,X],aa,λt p=>?_⟩;have aj:t∈(loadVar o ⟨i,e*h+m,n⟩).events P b.a #[]:=by
  have aw:ab O r=(do pure (.value (<-loadVar o ⟨i,e*h+m,n⟩))):=by simp[ab,T,G,Instr.loadAt,Instr.sureAddr]
  rw[aw]at p;simpa[X]using p
 obtain⟨a,g,rfl⟩:=o8 (aY o B w) (j:=c (f_ m (V e))) (λa g=>⟨_,S a (C (m+a)) M⟩) (by have:=r4 Q;grind) t aj;exact qh (b_ af) D
def eX.put{jy}{b}{gN ci}(m:eX bB h j V z)(p:e<j)(I:iZ b gN (V e)=f ci)(A:c jy=c gN)(D:∀(g:Nat)k,gN[g]?=f k->∃aa,jy[g]?=f aa/\Rd bB aa k):
  e*h+b+c jy<=c z/\eX bB h j (l5 e ci V) (z.take (e*h+b)++jy++z.drop (e*h+b+c jy)):=by
 obtain⟨x,s⟩:=Ek I;have Q:=m.bF e p;have y:e*h+h<=j*h:=by have:=g5 h (show e+1<=j by omega);grind
 have K:=m.len;have C:e*h+b+c jy<=c z:=w;have O:∀i,(z.take (e*h+b)++jy++z.drop (e*h+b+c jy))[i]?=if i<e*h+b then z[i]? else if i<e*h+b+c jy then jy[i-(e*h+b)]? else z[i]?:=by
  intro i;have F:c (z.take (e*h+b))=e*h+b:=M;by_cases o:i<e*h+b
  .grind
  rw[bj o];by_cases r:i<e*h+b+c jy
  .grind
  rw[bj r,hl M,pX];grind
 refine⟨C,⟨by grind,λd q=>?_,λd q g k a=>?_⟩⟩
 .simp only[l5];split
  .grind
  exact m.bF d q
 simp[l5]at a;rw[O];split at a
 .rename_i u;subst u;rw[s]at a;by_cases o:g<b
  .rw[mi,j3 M,iq,bo o]at a;rw[bo w];exact m.rd d p g k a
  by_cases r:g<b+c gN
  .rw[mi,hl M,j3 M]at a;obtain⟨aa,t,E⟩:=D _ k a;refine⟨aa,?_,E⟩;rw[bj w,bo w,<-t];congr 1;grind
  rw[hl M,pX]at a;rw[bj w,bj w];refine m.rd d p g k ?_;grind
 rename_i u;have N:g<h:=by have:=(cO.1 a).1;have:=m.bF d q;omega
 rcases dT d e with B|J
 .have:(d+1)*h<=e*h:=g5 h B;rw[jE,Nat.one_mul]at this;rw[bo w];exact m.rd d q g k a
 have:(e+1)*h<=d*h:=g5 h w;rw[jE,Nat.one_mul]at this;rw[bj w,bj w];exact m.rd d q g k a
def bc.gx(r:bc k b)(t:k[d]?=f (.q W h j V)){q p}{e}(Q:b.t[d]?=f ⟨.slice (f ⟨i,0,n⟩) 0 e,[i]⟩)(X:c (z++q)=e*h)(F:j<=e)(I:e<=9223372036854775807){g:Nat->m N}(w:b.a.heap[i]?=f (.cells (z++q).toArray W (0,0)))(R:eX b.D h j g p)(U:c p=c z)(K:∀E,b.D i E=n):
  bc (k.set d (.q W h j g)) {b with a:=b.a.setRow i (p++q).toArray}/\cN k b (k.set d (.q W h j g)) {b with a:=b.a.setRow i (p++q).toArray}:=by
 have C:(b.a.setRow i (p++q).toArray).heap[i]?=f (.cells (p++q).toArray W (0,0)):=setRow_heap b.a i _ _ W _ w;have B:∀o,o≠i->(b.a.setRow i (p++q).toArray).heap[o]?=b.a.heap[o]?:=λo s=>setRow_other b.a i o _ s;have S:b.t.set d ⟨.slice (f ⟨i,0,n⟩) 0 e,[i]⟩=b.t:=mY;obtain⟨J,t2⟩:=r.b7 (cj:=b.D) (bi:=b.a.setRow i (p++q).toArray) (eb:=.q W h j g) (cv:=⟨.slice (f ⟨i,0,n⟩) 0 e,[i]⟩) t Q ⟨λ_=>rfl,bC _⟩ D
  (λo s A=>B o M) (λ_ _ _ _=>rfl) (λ_ _ _ x=>x) (λo u O y=>by
   have T:o≠i:=M;have:=r.mem o u O y;rw[<-this];simp[aH]
   grind) (λo s=>⟨.inl s,by grind⟩) a a a
  (.inr ⟨i,e,p,q,rfl,C,by grind,F,I,R,K⟩)
 grind
def Mw{e:Type}:∀{new d:m e},c new=c d->iZ 0 new d=f new
 |[],[],_=>rfl
 |[],_::_,g=>by grind
 |_::_,[],g=>by grind
 |i::b,h::a,g=>by simp[iZ,Mw (new:=b) (d:=a) M]
def a1.hZ(aY:b2 P ac){F i:ae}(X:r.op=.store o F i){m}{y}{new}{gN ci}(al:η F=cC d (.bt C h e m))(ai:C=j)(w:k[d]?=f (.q W h j V))(u:bZ ac o=f y)(aj:mn (η i)=f new)(K:c new=y.size)(G:h3 new=f gN)(I:c (V e)=h->iZ m gN (V e)=f ci)(aa:e<j):
  a1 P r η k .any (k.set d (.q W h j (l5 e ci V))):=by
 intro E b t x;have s:=x F;rw[al]at s;obtain⟨A,aw,z,p,T,aM,J,H,ag,ah,U,S⟩:=GU t w s ai;have B:=uU aj (x i);have R:=rv G B;have L:=bM.eX R;have aq:(b i).cells.toList.length=c gN:=by have:=R.cJ;grind
 replace I:=I (U.bF e aa);obtain⟨av,N⟩:=U.put aa I aq L;have Z:(b i).cells.size=y.size:=by rw[<-K,<-B.cJ,m9]
 obtain⟨O,t2⟩:=t.gx w T H ag ah J N M S;have Y:=run_storeCells_at P A (e*h+m) W (b i).cells.toList 0 (z++p).toArray E.a J M B.cell;have af:((z++p).toArray.toList.take (e*h+m+0)++(b i).cells.toList++(z++p).toArray.toList.drop (e*h+m+0+(b i).cells.toList.length))=z.take (e*h+m)++(b i).cells.toList++z.drop (e*h+m+(b i).cells.toList.length)++p:=M;rw[af]at Y;refine⟨.skip,_,?_,a,O,t2,?_⟩
 .simp[ab,X,aM,Instr.storeAt,Instr.sureAddr,storeVar,(aY o y u).ba,Z,Y]
 intro q g;have an:ab b r=(do storeVar o ⟨A,e*h+m,n⟩ (b i);pure .skip):=by simp[ab,X,aM,Instr.storeAt,Instr.sureAddr]
 rw[an]at g;have ao:q∈(storeCells ⟨A,e*h+m,n⟩ (b i).cells.toList).events P E.a #[]:=by
  simp[storeVar,aD,(aY o y u).ba,Z,aF,events_sizeOf,dZ,hv,dm,cJ,c8,Sem.events_pure]at g;generalize(storeCells ⟨A,e*h+m,n⟩ (b i).cells.toList).run P E.a=ar at g;cases ar with
  |ok az Q=>simpa using g
  |halt F Q=>simpa using g
 rcases nj (b i).cells.toList 0 (z++p).toArray E.a #[] J M B.cell q ao with au|⟨ax,_,_,rfl⟩
 .grind
 exact oa (b_ T) D (S _)
end
section
def bc.fs(j:bc k b)(q:∀a,b.D i a=n)(r:∀a e,z[a]?=f e->b.a.cell? ⟨i,a,n⟩=f e):
  bc (k.map λ_=>.M) {b with D:=λd a=>if d=i then z[a]? else b.D d a}/\∀d a e,b.D d a=f e->(if d=i then z[a]? else b.D d a)=f e:=by
 have g:=j.dY;refine⟨⟨λd a e h=>?_,g.len,λs p L aJ o=>?_,g.a1,g.lt,g.own⟩,λd a e h=>?_⟩
 .by_cases m:d=i
  .grind
  simp[m,dm]at h;exact g.mem d a e h
 .have:=b_ aJ;simp at this;rw[<-this.2];trivial
 grind
def du.gF{e}{V}(r:du {b with D:=e} V){L}(x:L∈b.t)(s:i∈L.ak)(w:∀h k g,b.D h k=f g->e h k=f g)(u:∀h k g,e h k=f g->h=i∨b.D h k=f g):du b V:=by
 intro o q;have d:=r o q;unfold h4 at d⊢;split at d
 .obtain⟨ky,j2,a⟩:=d;refine⟨ky,j2,?_⟩;rcases a with a|⟨a,j⟩|⟨a,g,j⟩
  .grind
  .refine .inr (.inl ⟨a,λp=>?_⟩);have:=j p;rename_i m _;cases t:b.D m.block m.off with
   |none=>rfl
   |some g=>grind
  grind
 all_goals exact d
end
def nk(e:Nat)(a:Nat->Nat->Y):Nat->m N:=λb=>(aB e).map λd=>.val (a b d)
theorem sP{h}{a:Nat->Nat->Y}{s}(b:(nk h a e)[u]?=f s):u<h/\s=.val (a e u):=by
 have d:u<h:=by have:=(cO.1 b).1;simpa[nk]using this
 simp[nk,d]at b;grind
def CB{h}{a:Nat->Nat->Y}(b:u<h):(nk h a e)[u]?=f (.val (a e u)):=by simp[nk,b]
def Rd.exact{bB}{aa}{o}{h j}{d:Nat->m N}(D:Rd bB aa (.B o h j d)):
  ∃k:Nat->Nat->Y,Rd bB aa (.B o h j (nk h k))/\(∀a,a<j->c (d a)=h)/\∀a,a<j->∀b i,(d a)[b]?=f i->Rd bB (k a b) i:=by
 cases D with
 |B z q k y u x w t E p=>
  have A:∀a,a<j->∀b,b<h->∃i,(d a)[b]?=f i:=λa e b g=>⟨_,bH M⟩
  refine⟨k,.B z q k y u x (λa _=>by simp[nk]) t (λa e b i g=>?_) (λa e b i g=>?_),w,p⟩
  .grind [sP]
  obtain⟨r,rfl⟩:=sP g;obtain⟨C,s⟩:=A a e b r;exact .val (p a e b C s).cell
def DY{h}{L}{e s}{cap}(aJ:k[d]?=f (.q W h j V))(p:b.t[d]?=f L)(m:L.v=.slice s 0 cap)(q:j<=cap)(o:cap<=9223372036854775807)(x:0<cap->∃g,s=f ⟨g,0,n⟩/\e=f ⟨g,0,n⟩):cA k b (.slice e j cap) (.O d (.B j h 0 j)):=
 ⟨L.v,⟨e,s,cap,cap,rfl,q,by omega,o,m,λu=>by grind⟩,(cO.1 aJ).1,λw r t i a=>by rw[aJ]at a;cases a;exact⟨bC _,λ_=>⟨L,p,rfl⟩⟩⟩
def Gw{bO bP:ae}{a4}(s:jY P r bO bP W a4){A}{bz}{o:Nat->m N}{aj:ae->Y}(t:bc k b)(br:cA k b (aj bO) (.O d (.B j a4.size 0 j)))(K:k[d]?=f (.q W a4.size j V))(av:Rd b.D (aj bP) (.B bz a4.size A o))(H:(j+A)*a4.bytes<=140737488355328):
  ∃a9 ai,(ab aj r).run P b.a=.ok a9 ai.a/\Ar (k.set d (.q W a4.size (j+A) (cg j V o))) ai a9 (cC d (.B (j+A) a4.size 0 (j+A)))/\bc (k.set d (.q W a4.size (j+A) (cg j V o))) ai/\cN k b (k.set d (.q W a4.size (j+A) (cg j V o))) ai/\du b ((ab aj r).events P b.a #[]):=by
 obtain⟨bU,t2,g,bR,a5,e,I,aD,aE⟩:=s.op;have bS:=(cO.1 K).1;obtain⟨bT,⟨x,bm,aG,B,a6,bd,bE,bb,a2,bF⟩,_,a8⟩:=br;obtain⟨L,F,ao⟩:=(a8 _ _ _ _ K).2 rfl;rw[a2]at ao;have aY:B=aG:=w;subst aY;have bA:0<B->∃i,bm=f ⟨i,0,n⟩/\x=f ⟨i,0,n⟩:=λs=>by grind
 have aM:=(cO.1 F).1;have bh:=b_ F;have bD:=t.box d _ L K F;rw[lb a5,a6];have row:0<B->∃i z p,x=f ⟨i,0,n⟩/\L=⟨.slice (f ⟨i,0,n⟩) 0 B,[i]⟩/\b.a.heap[i]?=f (.cells (z++p).toArray W (0,0))/\c (z++p)=B*a4.size/\eX b.D a4.size j V z/\∀r,b.D i r=n:=by
  intro y;obtain⟨i,S,X⟩:=bA y;rcases bD with⟨_,rfl⟩|⟨h,u,z,p,rfl,aa,aL,aN,aO,aP,aQ⟩
  .grind
  grind
 by_cases bq:A=0
 .subst bq;have aw:=za (P:=P) (ty:=r.type) e I aD aE s.elem t (x:=x) bd av;simp only[j6];have bt:bs j V (cg j V o):=λg e=>by simp[cg,e]
  have aT:ey (k.set d (.q W a4.size j (cg j V o))) ⟨b.t.set d L,b.D,b.a,b.own⟩ (.q W a4.size j (cg j V o)) L:=by
   rcases bD with aa|⟨h,u,z,p,av,aa,aL,aN,aO,aP,aQ⟩
   .exact .inl aa
   exact .inr ⟨h,u,z,p,av,aa,aL,aN,aO,aP.cA bt,aQ⟩
  have au:=t.b7 (cj:=b.D) (bi:=b.a) (eb:=.q W a4.size j (cg j V o)) (cv:=L) K F ⟨λ_=>rfl,bC _⟩ (bC _) (λ_ _ _=>rfl) (λ_ _ _ _=>rfl) (λ_ _ _ s=>s) t.mem
   (λi H=>⟨.inl H,t.lt L bh i H⟩) a a a aT
  refine⟨.value (.slice x j B),_,?_,?_,au.1,au.2,iS (x1 e I aD aE s.elem t bd av)⟩
  .simp[aw]
  exact DY (W:=W) E8 M ao bd bb bA
 .by_cases aJ:j+A<=B
  .obtain⟨i,z,p,rfl,rfl,hw,G,E,af⟩:=row w;obtain⟨O,an,aw⟩:=D6 (P:=P) (ty:=r.type) e I aD aE s.elem t hw G av aJ;have a7:=E.len;have bJ:=an.len;have bG:j*a4.size+A*a4.size<=B*a4.size:=by rw[<-jE];exact g5 _ aJ
   have ah:((z++p).take (j*a4.size)++O++(z++p).drop (j*a4.size+c O))=(z++O)++p.drop (c O):=by rw[<-a7];simp
   rw[ah]at aw;have az:=setRow_heap b.a i _ ((z++O)++p.drop (c O)).toArray W _ hw;have aA:∀h,h≠i->(b.a.setRow i ((z++O)++p.drop (c O)).toArray).heap[h]?=b.a.heap[h]?:=λh ba=>setRow_other b.a i h _ ba;obtain⟨aC,bg⟩:=t.b7 (cj:=b.D) (bi:=b.a.setRow i ((z++O)++p.drop (c O)).toArray) (eb:=.q W a4.size (j+A) (cg j V o)) (cv:=⟨.slice (f ⟨i,0,n⟩) 0 B,[i]⟩) K F ⟨λ_=>rfl,by omega⟩ D
    (λh ba bQ=>aA h M) (λ_ _ _ _=>rfl) (λ_ _ _ s=>s) (λh bx Q a3=>by
     have bI:h≠i:=M;have:=t.mem h bx Q a3;rw[<-this];simp[aH]
     grind) (λh ba=>⟨.inl ba,by grind⟩) a a a
    (.inr ⟨i,B,z++O,p.drop (c O),rfl,az,by grind,aJ,bb,E.append an,af⟩)
   refine⟨.value (.slice (f ⟨i,0,n⟩) (j+A) B),_,?_,?_,aC,bg,iS (Cf e I aD aE s.elem t hw G av aJ bh D (λr _=>af r))⟩
   .simp[aw]
   exact DY (W:=W) E8 (by simp only;rw[io aM]) a aJ bb λ_=>⟨i,a,a⟩
  .have a0:B<j+A:=w;obtain⟨bp,aK,bN,bL⟩:=av.exact;have aI:∃(cj:Mem) (Z:Nat->Nat->Y),bc (k.map λ_=>.M) {b with D:=cj}/\(∀h r Q,b.D h r=f Q->cj h r=f Q)/\Rd cj (.slice x j B) (.B v a4.size j (nk a4.size Z))/\(∀{V},du {b with D:=cj} V->du b V) /\
     (∀g,g<j->c (V g)=a4.size)/\∀g,g<j->∀q C,(V g)[q]?=f C->Rd b.D (Z g q) C:=by
    by_cases y:0<B
    .obtain⟨i,z,p,rfl,rfl,hw,G,E,af⟩:=row y;obtain⟨u,T⟩:=t.fs (i:=i) (z:=z) af (λr Q a5=>by
      simp only[aH,hw]
      grind)
     have bB:∀g,g<j->∀q C,(V g)[q]?=f C->z[g*a4.size+q]?=f (z.getD (g*a4.size+q) J)/\Rd b.D (z.getD (g*a4.size+q) J) C:=by intro g e q C R;obtain⟨Q,a_,a'⟩:=E.rd g e q C R;grind
     have aW:∀g,g<j->∀q,q<a4.size->∃C,(V g)[q]?=f C:=λg e q R=>⟨_,bH (by rw[E.bF g e];exact R)⟩
     refine⟨_,λg q=>z.getD (g*a4.size+q) J,u,T,.B i 0 (λg q=>z.getD (g*a4.size+q) J) bd bb D (λg _=>by simp[nk]) bn (λg e q C R=>?_) (λg e q C R=>?_),λbu=>?_,E.bF,λg e q C R=>(bB g e q C R).2⟩
     .obtain⟨S,_⟩:=sP R;grind
     .obtain⟨S,rfl⟩:=sP R;obtain⟨bo,X⟩:=aW g e q S;exact .val (bB g e q bo X).2.cell
     exact bu.gF (i:=i) bh D T λh r Q a6=>by grind
    have S:B=0:=w;have X:j=0:=w;subst S X;have aF:=t.dY;exact⟨b.D,λ_ _=>J,⟨aF.mem,aF.len,aF.box,aF.a1,aF.lt,aF.own⟩,λ_ _ _ s=>s,Rd.dJ,λs=>s,λg e=>by omega,λg e=>by omega⟩
   obtain⟨cj,Z,u,T,aV,aR,bM,bK⟩:=aI;have al:=aK.mono T;obtain⟨bj,p,bf,bk,aq,ar,ax,aw⟩:=vS (P:=P) (b:={b with D:=cj}) (ty:=r.type) e I aD aE s.elem u aV al a0 H s.bytes;have aZ:=u4 (P:=P) (b:={b with D:=cj}) (ty:=r.type) e I aD aE s.elem u aV al a0 H s.bytes;have aS:eX b.D a4.size (j+A) (cg j V o) bj:=by
    refine⟨bk.len,λg e=>?_,λg e q C R=>?_⟩
    .by_cases U:g<j
     .simp only[cg,U,dv];grind
     simp only[cg,U,dm];grind
    by_cases U:g<j
    .simp only[cg,U,dv]at R;have bl:q<a4.size:=M;obtain⟨Q,a_,a'⟩:=bk.rd g e q (.val (Z g q)) (by simp only[cg,U,dv];exact CB bl);grind[Rd.bc]
    simp only[cg,U,dm]at R;have bl:q<a4.size:=M;obtain⟨Q,a_,a'⟩:=bk.rd g e q (.val (bp (g-j) q)) (by simp only[cg,U,dm];exact CB bl);grind[Rd.bc]
   have bw:∀r,b.D b.a.heap.size r=n:=λr=>by
    cases ag:b.D b.a.heap.size r with
    |none=>rfl
    |some Q=>have:=t.block ag;omega
   obtain⟨aC,bg⟩:=t.b7 (cj:=b.D) (bi:=b.a.drew.alloc (.cells (bj++p).toArray W)) (eb:=.q W a4.size (j+A) (cg j V o)) (cv:=⟨.slice (f ⟨b.a.heap.size,0,n⟩) 0 bf,[b.a.heap.size]⟩) K F
    ⟨λU=>absurd U w,by omega⟩ D (λi H _=>iV b.a.drew _ H) (λ_ _ _ _=>rfl) (λ_ _ _ s=>s) (λi r Q ag=>by have a1:=t.block ag;rw[<-t.mem i r Q ag];simp only[aH];rw[iV b.a.drew _ a1];rfl) (λi H=>by simp at H;exact bv) a a a (.inr ⟨b.a.heap.size,bf,bj,p,rfl,lT b.a.drew _,ax,aq,ar,aS,bw⟩)
   refine⟨.value (.slice (f ⟨b.a.heap.size,0,n⟩) (j+A) bf),_,?_,?_,aC,bg,iS (aR aZ)⟩
   .simp only at aw;simp[aw]
   exact DY (W:=W) E8 (by simp only;rw[io aM]) a aq ar λ_=>⟨_,a,a⟩
def a1.h7{q s:ae}{a4}(x:jY P r q s W a4){b}{p}{a:Nat->m N}(w:η q=cC d (.B j a4.size 0 j))(o:k[d]?=f (.q W a4.size j V))(u:∀g t,bx k g t (η s)->Rd g.D t (.B p a4.size b a))(h:(j+b)*a4.bytes<=140737488355328):
  a1 P r η k (cC d (.B (j+b) a4.size 0 (j+b))) (k.set d (.q W a4.size (j+b) (cg j V a))):=
 λg y i e=>Gw x i (by have:=e q;rw[w]at this;exact this) o (u g _ (e s)) h
section
variable {ac:m (Nat×cp)}
def a1.jq(aY:b2 P ac){g:ae}(t:r.op=.call {callee:=.builtin .len,args:=#[g],argTypes:=dr})(s:dr[0]?=f o){e}(b:bZ ac o=f e)(m:e.desc=.slice W){i}{cap}(x:η g=ax (.val (.slice i j cap)))(w:j<=9223372036854775807):a1 P r η k (ax (.int .i64 j)) k:=by
 refine .aR λy z u d=>?_;have a:=d g;rw[x]at a;have q:=Rd.bc (b7 a);have h:=(aY o e b).run_underlying (p:=y.a);rw[m]at h;refine⟨.int .i64 j,?_,Rd.int cS,?_⟩<;>
 simp[ab,t,resolve,invoke,builtin,Builtin.len_,q,h,goInt,s]
theorem a1.je(aY:b2 P ac){s h:ae}(B:r.op=.indexAddr o s h){e a4}(m:bZ ac o=f e)(E:e.desc=.slice W)(F:bZ ac W=f a4){cap}{u}{q}(K:η s=ax (.val (.slice (f ⟨i,off,n⟩) j cap)))(J:η h=ax (.int q u))(O:0<=u)(C:u<j):a1 P r η k (ax (.val (.pointer (f ⟨i,off+u.toNat*a4.size,n⟩)))) k:=by
 refine .aR λM t D d=>?_;have x:=d s;rw[K]at x;have I:=Rd.bc (b7 x);have b:=d h;rw[J]at b;replace b:=b7 b;generalize A:t h=N at b;cases b;have y:=(aY o e m).run_underlying (p:=M.a);rw[E]at y;obtain⟨g,rfl⟩:∃g:Nat,u=g:=⟨u.toNat,by omega⟩
 have z:g<j:=w;refine⟨.pointer (f ⟨i,off+g*a4.size,n⟩),?_,Rd.val a,?_⟩<;>
 simp[ab,B,I,A,Instr.indexAt,asIntOf,y,(aY W a4 F).ba,g0,z]
def a1.iP(aY:b2 P ac){e:ae}{m}(p:r.op=.fieldAddr o e m){h}{u}(q:η e=ax (.val (.pointer (f ⟨i,off,n⟩))))(j:lc ac o m=f (h,u)):a1 P r η k (ax (.val (.pointer (f ⟨i,off+h,n⟩)))) k:=by refine .aR λw t s d=>?_;have b:=d e;rw[q]at b;have g:=Rd.bc (b7 b);exact⟨.pointer (f ⟨i,off+h,n⟩),by simp[ab,p,g,zb aY j],Rd.val a,by simp[ab,p,g,x4 aY j]⟩
def a1.jR(aY:b2 P ac){U I J:ae}(Z:r.op=.slice o U n (f I) (f J)){e a4}(N:bZ ac o=f e)(H:e.desc=.slice W)(ai:bZ ac W=f a4){eO}{h}{m q}{u A}(aj:∀aa ag,bx k aa ag (η U)->Rd aa.D ag (.B eO h j V))(L:η I=ax (.int m u))(ah:η J=ax (.int q A))(K:0<=u)(ao:u<=A)(aq:A<=j):a1 P r η k (ax (.B v h u.toNat V)) k:=by
 refine .aR λa F ar i=>?_;have T:=aj a _ (i U);have s:=i I;rw[L]at s;replace s:=b7 s;generalize R:F I=av at s;cases s;have E:=i J;rw[ah]at E;replace E:=b7 E;generalize af:F J=aw at E;cases E;obtain⟨X,b,z,y,G,aA,aM,aC,au⟩:=T.bZ;rw[y]at T;have O:=(aY o e N).run_underlying (p:=a.a);rw[H]at O;have em:=re w;have t:(aT l j b n (f (.int m u)) (f (.int q A))).run P a.a=.ok (0,u.toNat,A.toNat) a.a:=by simp[aT,run_sliceBound (P:=P) a.a q A b _ w w,run_sliceBound (P:=P) a.a m u A.toNat _ K w]
 have al:(aT l j b n (f (.int m u)) (f (.int q A))).events P a.a #[]=#[]:=by simp[aT,run_sliceBound (P:=P) a.a q A b _ w w,run_sliceBound (P:=P) a.a m u A.toNat _ K w,la (P:=P) a.a q A b _ w w,la (P:=P) a.a m u A.toNat _ K w]
 refine⟨.slice X u.toNat A.toNat,?_,?_,by simp[ab,Z,y,R,af,Instr.sliceAt,O,Instr.slice,t,al]⟩
 .simp[ab,Z,y,R,af,Instr.sliceAt,O,Instr.slice,t,(aY W a4 ai).ba];intro _;rcases X with _|⟨Y,d,sp⟩<;>simp[Addr.add]
 cases T with
 |B Y d an _ _ _ S Q B C=>
  exact Rd.B Y d an w w D (λe x=>S e w) (λaz=>Q w) (λe x u M g=>B e w u M g) (λe x u M g=>C e w u M g)
end
def eX.hH{h a}{kH:Nat->m N}{jy}(p:eX bB h j V z)(q:eX bB h A kH jy)(u:a+A<=j):
  eX bB h j (λb=>if a<=b/\b<a+A then kH (b-a)else V b) (z.take (a*h)++jy++z.drop (a*h+c jy)):=by
 have D:=p.len;have F:=q.len;have C:a*h+A*h<=j*h:=by rw[<-jE];exact g5 h u
 have I:c (z.take (a*h))=a*h:=M;have s:∀i,(z.take (a*h)++jy++z.drop (a*h+c jy))[i]?=if i<a*h then z[i]? else if i<a*h+A*h then jy[i-a*h]? else z[i]?:=by
  intro i;by_cases e:i<a*h
  .grind
  rw[bj e];by_cases r:i<a*h+A*h
  .grind
  rw[bj r,hl M,pX];grind
 refine⟨by grind,λb g=>?_,λb g o t d=>?_⟩
 .by_cases k:a<=b/\b<a+A
  .rw[bo k];exact q.bF _ w
  rw[bj k];exact p.bF b g
 rw[s];by_cases k:a<=b/\b<a+A
 .rw[bo k]at d;have B:o<h:=by have:=(cO.1 d).1;rw[q.bF _ w]at this;omega
  have x:=g5 h k.1;have y:b*h+h<=a*h+A*h:=by rw[<-jE,<-oW];exact g5 h k.2
  rw[bj w,bo w];obtain⟨K,E,J⟩:=q.rd (b-a) w o t d;grind[Nat.sub_mul]
 rw[bj k]at d;have B:o<h:=by have:=(cO.1 d).1;rw[p.bF b g]at this;omega
 have:b*h+o<a*h∨a*h+A*h<=b*h+o:=by
  by_cases e:b<a
  .left;have:b*h+h<=a*h:=by rw[<-oW];exact g5 h e
   omega
  right;have:(a+A)*h<=b*h:=g5 h w;grind
 rcases this with e|e
 .rw[bo e];exact p.rd b g o _ d
 rw[bj w,bj w];exact p.rd b g o _ d
def Dw{W h i}{r:Nat->m N}{e}(u:Rd b.D aa (.B l i 0 r))(k:ap[d]?=f (.q W h 0 V))(s:e[d]?=f ⟨.slice n 0 0,[]⟩):cA ap {b with t:=e} aa (.O d (.B 0 h 0 0)):=by obtain⟨p,j,z,t,_,_,q,_,_⟩:=u.bZ;have:=q a;subst this;refine⟨.slice n 0 0,⟨p,n,0,0,t,by omega,a,by omega,a,λg=>absurd g w⟩,(cO.1 k).1,λo x y kH g=>?_⟩;rw[k]at g;cases g;exact⟨bC _,λ_=>⟨_,s,a⟩⟩
def du.jm{a}{V}(i:du {b with t:=a++[⟨aa,[]⟩]} V)(k:b.t=a):du b V:=by
 intro h g;have e:=i h g;have key:∀d,(∃L∈a++[(⟨aa,[]⟩:Loc)],d∈L.ak)->∃L∈b.t,d∈L.ak:=λd ⟨L,m,j⟩=>by grind
 unfold h4 at e⊢;grind
def a1.h'{j t:ae}{a4}(E:jY P r j t W a4){h}{s}{e:Nat->m N}(Q:η j=ax (.B l h 0 V))(J:∀b z,bx k b z (η t)->Rd b.D z (.B s a4.size A e))(p:(0+A)*a4.bytes<=140737488355328):
  a1 P r η k (cC (c k) (.B (0+A) a4.size 0 (0+A))) (k++[.q W a4.size (0+A) (cg 0 V e)]):=by intro b u bP i;have g:=i j;rw[Q]at g;have o:=J b _ (i t);obtain⟨I,F⟩:=bP.bY (bS:=.q W a4.size 0 V) (L:=⟨.slice n 0 0,[]⟩) (.refl _ _) rfl bP (.inl ⟨rfl,rfl⟩) D;have C:cA (k++[.q W a4.size 0 V]) {b with t:=b.t++[⟨.slice n 0 0,[]⟩]} (u j) (.O (c k) (.B 0 a4.size 0 0)):=Dw (W:=W) (V:=V) (b7 g) D tX;obtain⟨M,q,K,w,y,x,O⟩:=Gw (P:=P) (k:=k++[.q W a4.size 0 V]) (b:={b with t:=b.t++[⟨.slice n 0 0,[]⟩]}) (d:=c k) (V:=V) E I C D o p;have B:(k++[aq.q W a4.size 0 V]).set (c k) (.q W a4.size (0+A) (cg 0 V e))=k++[.q W a4.size (0+A) (cg 0 V e)]:=D;rw[B]at w y x;exact⟨M,q,K,w,y,F.trans x,O.jm a⟩
def qC(d e g:Nat)(a:Nat->m N):Nat->m N:=λb=>if d<=b/\b<d+g then a (e+(b-d))else a b
def a1.h_{a_ a':ae}{a4}(aC:jY P r a_ a' W a4)(bz:η a_=cC d (.B j a4.size 0 e))(bA:η a'=cC d (.B j a4.size u A))(t:k[d]?=f (.q W a4.size j V))(Z:e+A<=j)(aO:u+A<=j):
  a1 P r η k (cC d (.B j a4.size 0 (e+A))) (k.set d (.q W a4.size j (qC e u A V))):=by
 intro b a8 q aT;obtain⟨b3,t2,b4,bS,bx,s,ar,bd,aM⟩:=aC.op;have ao:=aT a_;rw[bz]at ao;change cA k b (a8 a_) (.O d _)at ao;have aq:=aT a';rw[bA]at aq;change cA k b (a8 a') (.O d _)at aq;obtain⟨bD,⟨x,bh,h,y,aV,bg,aK,T,aa,X⟩,_,bG⟩:=ao;obtain⟨L,E,bf⟩:=(bG _ _ _ _ t).2 rfl;rw[aa]at bf;obtain⟨bQ,⟨o,bJ,aA,bK,aW,bZ,bp,bq,au,br⟩,_,az⟩:=aq;obtain⟨bV,S,H⟩:=(az _ _ _ _ t).2 rfl;rw[E]at S;cases S;rw[au,bf]at H;cases H;have aG:=b_ E;have ax:=s.run_underlying (p:=b.a);have bc:=bd.run_underlying (p:=b.a);rw[ar]at ax;rw[aM]at bc;rw[lb bx,aV,aW];by_cases aP:j=0
 .have an:e=0:=w;have bm:A=0:=w;subst aP an bm;have aw:k.set d (.q W a4.size 0 (qC 0 u 0 V))=k:=by
   have:qC 0 u 0 V=V:=by funext bl;exact cS
   rw[this];exact mY
  have aY:Rd b.D (.slice o 0 aA) (.B v a4.size 0 λ_=>[]):=.B 0 0 (λ_ _=>J) w w D (λe s=>by omega) (λaC=>by omega) (λe s=>by omega) (λe s=>by omega);have bF:=za (P:=P) (ty:=r.type) s ar bd aM aC.elem q (x:=x) bg aY;rw[aw];refine⟨.value (.slice x 0 h),b,?_,?_,q,.refl _ _,iS (x1 s ar bd aM aC.elem q bg aY)⟩
  .simp[bF]
  exact⟨bD,⟨x,bh,h,y,a,bg,aK,T,aa,X⟩,(cO.1 t).1,bG⟩
 rcases q.box d _ L t E with⟨al,_⟩|⟨i,aj,z,ah,rfl,C,aZ,a0,a2,ag,aI⟩
 .grind
 cases bf;have bW:0<h:=w;obtain⟨b0,an,rfl⟩:=X bW;cases an;have aL:y=h:=w;subst aL;rw[show i=i from a];have bP:=ag.len;have bB:e+A<=y:=w;have bL:e*a4.size+A*a4.size<=j*a4.size:=by rw[<-jE];exact g5 _ Z
 have bM:u*a4.size+A*a4.size<=j*a4.size:=by rw[<-jE];exact g5 _ aO
 obtain⟨aj,bk⟩:=q.fs (i:=i) (z:=z) aI (λbl aE G=>by
  simp[aH,C]
  grind)
 let m:=(z.drop (u*a4.size)).take (A*a4.size);have aR:c m=A*a4.size:=M;have aQ:∀g,g<A*a4.size->m[g]?=z[u*a4.size+g]?:=λg I=>by grind
 have Q:eX b.D a4.size A (λbl=>V (u+bl)) m:=by
  refine⟨aR,λbl G=>ag.bF _ w,λbl G g bj I=>?_⟩;have bO:g<a4.size:=by have:=(cO.1 I).1;rw[ag.bF _ w]at this;omega
  obtain⟨aE,O,F⟩:=ag.rd (u+bl) w g bj I;refine⟨aE,?_,F⟩;exact Pa
 have bR:=Q.cell;have af:Rd (λB bl=>if B=i then z[bl]? else b.D B bl) (.slice o A aA) (.B v a4.size A (nk a4.size λbl g=>z.getD ((u+bl)*a4.size+g) J)):=by
  refine .B i (u*a4.size) (λbl g=>z.getD ((u+bl)*a4.size+g) J) bZ w D (λbl _=>by simp[nk]) (λI=>M) (λbl G g bj I=>?_) (λbl G g bj I=>?_)
  .obtain⟨a3,_⟩:=sP I;exact Pa
  obtain⟨a3,rfl⟩:=sP I;obtain⟨ai,aJ⟩:∃ai,(V (u+bl))[g]?=f ai:=⟨_,bH (by rw[ag.bF _ w];exact a3)⟩
  obtain⟨aE,O,F⟩:=ag.rd (u+bl) w g ai aJ;have al:z.getD ((u+bl)*a4.size+g) J=aE:=M;rw[al];exact .val F.cell
 obtain⟨R,bI,K,bu⟩:=oA (P:=P) (b:={b with D:=λB bl=>if B=i then z[bl]? else b.D B bl}) aj af;have aS:R=m:=by
  apply p4;intro g;have bN:=bI.len;by_cases I:g<A*a4.size
  .have bX:0<a4.size:=M;have G:g / a4.size<A:=si M;have ab:=ur g a4.size;obtain⟨aE,O,F⟩:=bI.rd _ G (g % a4.size) _ (CB (pY _ bX));rw[ab]at O;rw[O,aQ g I,Rd.bc F];rw[jE,Nat.add_assoc,ab,ak,bH w];rfl
  grind
 subst aS;have aN:=sN (P:=P) (b:={b with D:=λB bl=>if B=i then z[bl]? else b.D B bl}) aj af (p:=b.a) rfl;replace K:(Builtin.firstCells a4.size A (.slice o A aA)).run P b.a=.ok m.toArray b.a:=K;have bt:e*a4.size+c m<=c (z++ah):=M;have N:=run_storeCells_at P i (e*a4.size) W m 0 (z++ah).toArray b.a C M bR;simp only[j6]at N;have av:((z++ah).toArray.toList.take (e*a4.size)++m++(z++ah).toArray.toList.drop (e*a4.size+c m))=z.take (e*a4.size)++m++z.drop (e*a4.size+c m)++ah:=M;rw[av]at N;have a5:=ag.hH Q Z;have bs:(λbl=>if e<=bl/\bl<e+A then(λbl=>V (u+bl)) (bl-e)else V bl)=qC e u A V:=rfl;rw[bs]at a5;obtain⟨bE,a6⟩:=q.gx t E aZ a0 a2 C a5 M aI;have bT:(Builtin.lenOf (.slice o A aA)).run P b.a=.ok A b.a:=cS;have bY:(Builtin.lenOf (.slice o A aA)).events P b.a #[]=#[]:=cS;refine⟨.value (.slice (f ⟨i,0*a4.size,n⟩) (e+A) y),_,?_,?_,bE,a6,iS ?_⟩
 .have bF:(Builtin.append_ #[b3,t2] r.type #[.slice (f ⟨i,0*a4.size,n⟩) e y,.slice o A aA]).run P b.a=.ok (.slice (f ⟨i,0*a4.size,n⟩) (e+A) y) (b.a.setRow i (z.take (e*a4.size)++m++z.drop (e*a4.size+c m)++ah).toArray):=by unfold Builtin.append_;simp[j4,mg,nZ,cJ,ax,bc,c8,aC.elem.ba,dY,j5,dm,bT,bB,dv,hJ,K,g0,Nat.zero_mul,cX,N]
  grind[Go.Sem.run_bind,Go.Result.andThen_ok,Go.Sem.run_pure]
 .exact⟨.slice (f ⟨i,0,n⟩) 0 y,⟨_,_,y,y,a,bB,by omega,T,a,λ_=>⟨i,a,a⟩⟩,by grind,λbU b1 b2 kH Y=>by rw[io (cO.1 t).1]at Y;cases Y;exact⟨bC _,λ_=>⟨_,E,a⟩⟩⟩
 .intro al bb;unfold Builtin.append_ at bb;simp[j4,mg,nZ,aD,cJ,ax,bc,aF,aC.elem.ba,dY,j5,dm,bT,bY,bB,dv,hJ,K,g0,Nat.zero_mul,cX,N,
   su,Sem.events_ite,events_underlying,events_sizeOf,Sem.events_pure]at bb
  rcases nj m 0 (z++ah).toArray b.a _ C M bR al bb with bn|⟨g,_,_,rfl⟩
  .have bo:du {b with D:=λB bl=>if B=i then z[bl]? else b.D B bl} #[al]:=du.Q (tm (aN al bn));exact bo.gF (i:=i) aG D bk (λB bl aE aV=>by grind) al D
  grind[oa]
section
variable {ac:m (Nat×cp)}
theorem a1.slice3B(aY:b2 P ac){D p E F:ae}(Q:r.op=.slice o D (f p) (f E) (f F)){I a4}(y:bZ ac o=f I)(H:I.desc=.slice W)(T:bZ ac W=f a4){C h ai}{aa b s}{e u A}(X:η D=cC d (.B C h ai j))(U:η p=ax (.int aa e))(V:η E=ax (.int b u))(S:η F=ax (.int s A))(av:0<=e)(Z:e<=u)(af:u<=A)(aw:A<=j):a1 P r η k (.n (.Q .any)) k:=by
 refine .aR λg q ag m=>?_;have K:=m D;rw[X]at K;change cA k g (q D) (.O d _)at K;obtain⟨ah,⟨O,Y,i,az,G,au,ao,ar,aq,L⟩,_,_⟩:=K;have B:=m p;rw[U]at B;replace B:=b7 B;generalize R:q p=aj at B;cases B;have t:=m E;rw[V]at t;replace t:=b7 t;generalize N:q E=al at t;cases t;have x:=m F;rw[S]at x;replace x:=b7 x;generalize M:q F=an at x;cases x;have J:=(aY o I y).run_underlying (p:=g.a);rw[H]at J;have z:(aT l j i (f (.int aa e)) (f (.int b u)) (f (.int s A))).run P g.a=.ok (e.toNat,u.toNat,A.toNat) g.a:=by simp[aT,run_sliceBound (P:=P) g.a s A i _ w w,run_sliceBound (P:=P) g.a b u A.toNat _ w w,run_sliceBound (P:=P) g.a aa e u.toNat _ w w]
 have aM:(aT l j i (f (.int aa e)) (f (.int b u)) (f (.int s A))).events P g.a #[]=#[]:=by
  simp[aT,run_sliceBound (P:=P) g.a s A i _ w w,run_sliceBound (P:=P) g.a b u A.toNat _ w w,run_sliceBound (P:=P) g.a aa e u.toNat _ w w,
   la (P:=P) g.a s A i _ w w,la (P:=P) g.a b u A.toNat _ w w,la (P:=P) g.a aa e u.toNat _ w w]
 refine⟨.slice (if A.toNat=e.toNat then O else O.map (·.add (e.toNat*a4.size))) (u.toNat-e.toNat) (A.toNat-e.toNat),?_,a,by simp[ab,Q,G,R,N,M,Instr.sliceAt,J,Instr.slice,z,aM]⟩;simp[ab,Q,G,R,N,M,Instr.sliceAt,J,Instr.slice,z,(aY W a4 T).ba]
end
section drop
variable {aS bq:m aq}
def a6.cut(a:a6)(b:Nat):a6:={a with t:=a.t.take b}
def cA.drop{g}(e:cA (aS++bq) b aa g)(h:lV (c aS) g=l):cA aS (b.cut (c aS)) aa g:=by
 have lt:∀{d:Nat},ay (d+1) (c aS)=l->d<c aS:=λq=>fs q;cases g with
 |c w=>exact e
 |any=>exact e
 |ptr d t=>
  have gQ:=lt h;obtain⟨a,L,o,j,aj⟩:=e;refine⟨λi k=>a i M,L,o,?_,aj⟩;simp[a6.cut,iq,gQ,dv];exact j
 |aM d=>
  have gQ:=lt h;obtain⟨a,L,j,aj⟩:=e;refine⟨λi k=>a i M,L,?_,aj⟩;simp[a6.cut,iq,gQ,dv];exact j
 |O d u=>
  have gQ:=lt h;obtain⟨m,a,_,aj⟩:=e;refine⟨m,a,gQ,λW gk Dv dG k=>?_⟩;exact Qs
 |x d r s p=>
  have gQ:=lt h;obtain⟨a,_,aj⟩:=e;refine⟨a,gQ,λW gk Dv dG k=>?_⟩;exact Qs
def bM.cH:∀{z:m Y}{a:m R},bM (aS++bq) b z a->lg (c aS) a=l->bM aS (b.cut (c aS)) z a
 |[],[],_,_=>trivial
 |[],_::_,d,_=>d.elim
 |_::_,[],d,_=>d.elim
 |i::z,h::a,d,e=>by
  simp[lg]at e;cases g:lV (c aS) h with
  |false=>grind
  |true=>simp[g]at e;exact⟨d.1.drop g,bM.cH d.2 e⟩
def ez.cH{aa}{a}(h:ez (aS++bq) b aa a)(g:pe (c aS) a=l):ez aS (b.cut (c aS)) aa a:=by
 cases a with
 |Q j=>exact cA.drop h g
 |agg i=>obtain⟨z,d,e⟩:=h;exact⟨z,d,bM.cH e g⟩
def eY.cH:∀{z:m Y}{a:m E1},eY (aS++bq) b z a->oj (c aS) a=l->eY aS (b.cut (c aS)) z a
 |[],[],_,_=>trivial
 |[],_::_,d,_=>d.elim
 |_::_,[],d,_=>d.elim
 |i::z,h::a,d,e=>by
  simp[oj]at e;cases g:pe (c aS) h with
  |false=>grind
  |true=>simp[g]at e;exact⟨ez.cH d.1 g,eY.cH d.2 e⟩
def bx.drop{a}(h:bx (aS++bq) b aa a)(g:hO (c aS) a=l):bx aS (b.cut (c aS)) aa a:=by
 cases a with
 |n j=>exact ez.cH h g
 |S i=>obtain⟨z,d,e⟩:=h;exact⟨z,d,eY.cH e g⟩
 |any=>trivial
def df.drop{d}{h}(a:df d h (aS++bq) b)(s:d.length<=c aS):df d h aS (b.cut (c aS)):=by refine⟨a.size,a.a3,a.mem,a.bz,λL k r o=>a.bR L (gY k) r o,?_,a.os,a.tape,a.output,a.own⟩;intro p q L aJ k;obtain⟨i,j,e,m,t⟩:=a.box p q L aJ k;have g:p<c aS:=eC (cO.1 aJ).1 s;rw[j3 g]at e;exact⟨i,j,e,by simp[a6.cut,iq,g,dv];exact m,t⟩
def cA.cF{g}(j:c b.t=c k)(e:cA k b aa g):lV (c k) g=l:=by
 have ok:∀{a:Nat},a<c k->ay (a+1) (c k)=l:=λd=>AB d;have lt:∀{a:Nat} {L:Loc},b.t[a]?=f L->a<c k:=λd=>by grind
 cases g with
 |c t=>rfl
 |any=>rfl
 |ptr a r=>obtain⟨_,L,o,h,_⟩:=e;exact ok (lt h)
 |aM a=>obtain⟨_,L,h,_⟩:=e;exact ok (lt h)
 |O a s=>obtain⟨m,_,d,_⟩:=e;exact ok d
 |x a p q i=>exact ok e.2.1
def bM.cF{k}(e:c b.t=c k):∀{z:m Y}{a:m R},bM k b z a->lg (c k) a=l
 |[],[],_=>rfl
 |[],_::_,d=>d.elim
 |_::_,[],d=>d.elim
 |h::z,g::a,d=>by simp[lg,d.1.cF e];exact bM.cF e d.2
def ez.cF{k}(a:c b.t=c k){aa}{d}(e:ez k b aa d):pe (c k) d=l:=by
 cases d with
 |Q i=>exact cA.cF a e
 |agg g=>obtain⟨z,_,h⟩:=e;exact bM.cF a h
def eY.cF{k}(e:c b.t=c k):∀{z:m Y}{a:m E1},eY k b z a->oj (c k) a=l
 |[],[],_=>rfl
 |[],_::_,d=>d.elim
 |_::_,[],d=>d.elim
 |h::z,g::a,d=>by simp[oj,ez.cF e d.1];exact eY.cF e d.2
def bx.cF{k}(a:c b.t=c k){aa}{d}(e:bx k b aa d):hO (c k) d=l:=by
 cases d with
 |n i=>exact ez.cF a e
 |S h=>obtain⟨z,_,g⟩:=e;exact eY.cF a g
 |any=>rfl
def Aj(o:Nat)(d:m aq)(k:Nat)(b:aq):Prop:=(∃h a,b=.cells h a/\lg o a=l)∨d[k]?=f b∨(∃g e i j,b=.loop g e i/\d[k]?=f (.loop g e j))∨((∀h a,b≠.cells h a)/\∀g e i,b≠.loop g e i)
def bc.gV{w}{g}(r:bc g w)(x:g.length=c aS)(O:∀d(s:aq),aS[d]?=f s->Aj (c aS) g d s)(j:bc (aS++bq) b):bc aS (b.cut (c aS)):=by
 have E:c aS<=c b.t:=by rw[j.len];simp
 refine⟨j.mem,by simp[a6.cut,E],?_,?_,?_,λh a=>⟨(j.own h a).1,λL e=>(j.own h a).2 L (gY e)⟩⟩
 .intro d s L aJ e;have K:d<c aS:=(cO.1 aJ).1;simp[a6.cut,iq,K,dv]at e;have q:=j.box d s L M e;have y:∃A,w.t[d]?=f A:=⟨_,bH (by rw[r.len,x];exact K)⟩
  obtain⟨A,y⟩:=y;have aa:=r.len.trans x;cases s with
  |cells J S=>
   obtain⟨h,z,k,m,I,F⟩:=q;refine⟨h,z,k,m,bM.cH I ?_,F⟩;rcases O d _ aJ with⟨_,_,t,i⟩|i|⟨_,_,_,_,t,_⟩|i
   .grind
   .obtain⟨_,_,_,_,Y,_⟩:=r.box d _ A i y;exact x▸Y.cF r.len
   .cases t
   grind
  |x J T U D=>exact q
  |K H=>exact q
  |M=>trivial
  |loop R Q Z=>
   obtain⟨o,tmps,fn,W,k,m,I,F,X⟩:=q;have key:∃p,g[d]?=f (.loop R Q p):=by
    rcases O d _ aJ with⟨_,_,t,_⟩|i|⟨_,_,_,p,t,i⟩|i
    .cases t
    .grind
    .grind
    grind
   obtain⟨p,i⟩:=key;obtain⟨_,_,_,_,_,_,_,V,_⟩:=r.box d _ A i y;exact⟨o,tmps,fn,W,k,m,I,λN=>(F N).drop (x▸(V N).cF r.len),X⟩
  |bl=>exact q
  |q J T U D=>exact q
 .intro d o L B e C h a u;simp only[a6.cut,iq]at e C;split at e<;>split at C<;>first|exact j.a1 d o L B e C h a u|grind|grind
 intro L e h a;exact j.lt L (gY e) h a
def bc.iH{e}(g:bc aS e)(d:bc (aS++bq) b):bc aS (b.cut (c aS)):=g.gV a (λ_ _ d=>.inr (.inl d)) d
def aZ.e0{u:af P}{h}(m:aZ u E all r I k (.n (.Q (.x (c k) h j V))) (k++[.x W h j V])):aZ u E all r I k (ax (.B v h j V)) k:=by
 intro D y A g w s i x C d a p o;refine m D y A g w s i x C d a p λF e q b t=>?_;have B:e2 e (e.cut (c k)):=⟨rfl,λ_ _ _ m=>m,λ_ _ _=>rfl,b.mem,λw a=>a.imp id λ⟨L,z,a⟩=>⟨L,gY z,a⟩⟩
 exact .aP B (o F (e.cut (c k)) q.1 (g.iH b) (t.drop (bC _)))
end drop
end Go.AM
