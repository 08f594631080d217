/- Part 1. No condition. -/
import Derived.KernelRfl
import Derived.Tactics2
import Derived.LaidSub
import Derived.LaidLaws
import Derived.LaidHandle
import Derived.Conc.Own
import Derived.Conc.Events
import Derived.Conc.Listed
import Derived.Laws.CopyRow
import Derived.Laws.AppendOwn
import Derived.Laws.Rows
import Derived.Laws.Strings
import Derived.Laws.Cells
import Derived.Lib.Strings
import Derived.Laws.Slices
import Derived.Orders
import Derived.Laws.StructEq
set_option linter.all false
set_option maxHeartbeats 8000000
open Go.Conc (G)
open List renaming length → c, range → aB, replicate → aY, getD_eq_getElem?_getD → al
open Go renaming Value → Z, TypeId → aq, Event → aT, undef → K, World → au, Frame → aL, FuncId → a3, execOp → ac, Operand → aA, Program → aI, Goroutine → ak, stepG → ar, Oper → ap
open Option renaming some → f, none → p
open Bool renaming true → m, false → v
open Nat renaming beq → af, ble → ay
open Go.Region renaming wanted → aU, ready → aR
open Go.World renaming cell? → aM
open Go.Op renaming bytesLess → aW, equalIn → aQ
open Go.Sem renaming events_bind → aF
open Go.Result renaming evThen_ok → aK
open Go.Instr renaming sliceBounds → aX
set_option linter.defProp false
set_option linter.deprecated false
namespace Go
def C:=@_root_.trivial
def bG:=@_root_.List.getElem?_eq_getElem
def bA:=@_root_.decide_eq_true_eq
def a_:=@_root_.and_true
def a':=@_root_.true_and
def ca:=@_root_.List.mem_of_getElem?
def dv:=@_root_.decide_eq_false_iff_not
def cO:=@_root_.List.getElem?_eq_some_iff
def di:=@_root_.Nat.eq_of_beq_eq_true
def c5:=@_root_.Int.toNat_natCast
def bE:=@_root_.Nat.le_refl
def dm:=@_root_.List.length_append
def cC:=@_root_.Bool.and_eq_true
def c7:=@_root_.Go.Result.andThen_ok
def cV:=@_root_.Nat.zero_add
def c_:=@_root_.List.take_length
def bl:=@_root_.if_neg
def cI:=@_root_.Go.Sem.run_bind
def eM:=@_root_.beq_eq_false_iff_ne
def hp:=@_root_.Array.getD_eq_getD_getElem?
def br:=@_root_.if_pos
def eE:=@_root_.Nat.lt_of_lt_of_le
def fe:=@_root_.Nat.le_of_ble_eq_true
def gW:=@_root_.List.length_singleton
def hq:=@_root_.List.getElem_of_mem
def eW:=@_root_.Option.some.injEq
def hr:=@_root_.List.getElem?_append_right
def fp:=@_root_.List.length_cons
def fT:=@_root_.beq_self_eq_true
def gX:=@_root_.Nat.mul_le_mul_right
def jF:=@_root_.List.eq_nil_of_length_eq_zero
def fq:=@_root_.Bool.not_true
def d_:=@_root_.Go.Sem.run_pure
def d6:=@_root_.Nat.lt_or_ge
def iF:=@_root_.Array.getElem?_eq_getElem
def ff:=@_root_.decide_eq_true
def io:=@_root_.List.getElem?_set_self
def hh:=@_root_.List.mem_of_mem_take
def je:=@_root_.Array.getElem?_eq_some_iff
def hs:=@_root_.not_true_eq_false
def dh:=@_root_.if_false
def gY:=@_root_.List.mem_singleton
def gC:=@_root_.List.length_nil
def fr:=@_root_.List.mem_cons
def fs:=@_root_.Bool.true_and
def iG:=@_root_.List.pairwise_cons
def gl:=@_root_.List.mem_append
def ip:=@_root_.bne_self_eq_false
def pd:=@_root_.List.pairwise_iff_getElem
def kH:=@_root_.List.getElem?_append_left
def iq:=@_root_.List.getElem?_take
def hH:=@_root_.Bool.not_false
def fM:=@_root_.Nat.le_trans
def dH:=@_root_.if_true
def j9:=@_root_.List.getElem?_toArray
def ir:=@_root_.Option.getD_some
def h2:=@_root_.List.append_nil
def jf:=@_root_.List.mem_cons_self
def j_:=@_root_.List.getElem?_set_ne
def qg:=@_root_.List.ext_getElem?
def j':=@_root_.Bool.not_eq_true'
def kI:=@_root_.List.length_filter_le
def gZ:=@_root_.beq_iff_eq
def uJ:=@_root_.List.findIdx?_eq_some_iff_getElem
def ka:=@_root_.Bool.false_eq_true
def eN:=@_root_.congrArg
def iH:=@_root_.Nat.not_lt_zero
def Gq:=@_root_.List.take_append_drop
def jG:=@_root_.Bool.or_eq_true
def g0:=@_root_.Nat.zero_le
def nc:=@_root_.List.getElem?_cons_zero
def nd:=@_root_.Array.length_toList
def xe:=@_root_.Array.getElem?_replicate
def xf:=@_root_.List.take_add_one
def k8:=@_root_.List.length_map
def kb:=@_root_.List.foldl_cons
def iI:=@_root_.bne_iff_ne
def oa:=@_root_.List.getElem?_cons_succ
def k9:=@_root_.decide_eq_false
def kJ:=@_root_.List.mem_filter
def A0:=@_root_.List.mem_iff_getElem
def nf:=@_root_.List.mem_cons_of_mem
def mt:=@_root_.List.append_assoc
def sL:=@_root_.Nat.beq_refl
def d':=@_root_.ne_eq
def lI:=@_root_.decide_true
def lJ:=@_root_.Option.map_some
def jH:=@_root_.Nat.add_mul
def qh:=@_root_.not_false_eq_true
def kf:=@_root_.Nat.add_zero
def ng:=@_root_.List.getElem?_map
def uK:=@_root_.Array.getElem?_setIfInBounds_self_of_lt
def sM:=@_root_.Array.getElem?_setIfInBounds_ne
def ob:=@_root_.Nat.eq_zero_or_pos
def pe:=@_root_.List.pairwise_append
def xg:=@_root_.Array.toArray_toList
def xh:=@_root_.Array.mapM_eq_mapM_toList
def lK:=@_root_.Prod.mk.injEq
def k_:=@_root_.List.mem_map
def oc:=@_root_.Option.bind_some
def mr:=@_root_.List.map_cons
def n_:=@_root_.decide_false
def rp:=@_root_.Option.map_eq_some_iff
def qa:=@_root_.Nat.add_sub_cancel
def qb:=@_root_.List.getElem?_drop
def pa:=@_root_.Nat.succ_mul
def qc:=@_root_.Nat.mod_lt
def rq:=@_root_.List.length_set
def pb:=@_root_.Bool.eq_iff_iff
def sx:=@_root_.List.filter_eq_self
def rr:=@_root_.Int.toNat_of_nonneg
def qd:=@_root_.Bool.not_eq_true
def pc:=@_root_.List.mapM_cons
def AK:=@_root_.Bool.and_eq_false_iff
def Si:=@_root_.List.drop_eq_getElem_cons
def qe:=@_root_.List.nil_append
def ru:=@_root_.of_decide_eq_true
def sy:=@_root_.Nat.div_lt_of_lt_mul
def sz:=@_root_.List.mem_of_mem_drop
def rv:=@_root_.List.getElem?_set
def AL:=@_root_.bne_eq_false_iff_eq
def w7:=@_root_.List.map_congr_left
def uC:=@_root_.Nat.le_mul_of_pos_right
def sA:=@_root_.List.length_drop
def rx:=@_root_.List.ext_getElem
def lH:=@_root_.true_or
def sB:=@_root_.Int.emod_lt_of_pos
def AN:=@_root_.Bool.not_eq_false'
def uD:=@_root_.UInt8.toNat_inj
def ry:=@_root_.Option.some.inj
def AO:=@_root_.Nat.ble_eq_true_of_le
def uE:=@_root_.Array.mem_of_getElem?
def w8:=@_root_.List.getElem?_concat_length
def sC:=@_root_.List.flatMap_cons
def n':=@_root_.Nat.not_lt
def sD:=@_root_.List.mem_range
def sE:=@_root_.Nat.sub_zero
def uF:=@_root_.Nat.div_add_mod'
def sF:=@_root_.List.not_mem_nil
def sG:=@_root_.List.filter_cons
def sH:=@_root_.List.drop_length
def w9:=@_root_.Nat.lt_succ_iff_lt_or_eq
def sI:=@_root_.Int.emod_nonneg
def Gl:=@_root_.List.take_of_length_le
def w_:=@_root_.List.range_succ_eq_map
def uG:=@_root_.List.foldl_append
def sJ:=@_root_.Bool.false_and
def w':=@_root_.List.getElem?_eq_none
def Sj:=@_root_.List.find?_eq_some_iff_getElem
def uH:=@_root_.List.cons_append
def xa:=@_root_.Nat.mul_le_mul_left
def Gm:=@_root_.List.length_eraseIdx_of_lt
def AP:=@_root_.List.mem_or_eq_of_mem_set
def AQ:=@_root_.List.findIdx?_eq_none_iff
def xb:=@_root_.List.pairwise_map
def afL:=@_root_.Option.isSome_iff_exists
def Gn:=@_root_.List.set_eq_of_length_le
def sK:=@_root_.Go.Sem.run_ite
def AR:=@_root_.Nat.add_sub_cancel_left
def xc:=@_root_.List.getElem_mem
def uI:=@_root_.Nat.sub_self
def AS:=@_root_.Array.getElem?_eq_none
def AT:=@_root_.List.contains_iff_mem
def Gp:=@_root_.Array.getElem?_toList
def AU:=@_root_.Array.getElem?_modify
def AV:=@_root_.Nat.pow_le_pow_right
def AW:=@_root_.List.getElem?_of_mem
def qf:=@_root_.Ne.symm
def AX:=@_root_.Nat.add_sub_cancel'
def AY:=@_root_.List.length_pos_iff
def xd:=@_root_.Nat.lt_irrefl
def AZ:=@_root_.List.take_set
def bm{α:Sort _}{β:α→Sort _}{ae:(k:α)→β k}:∀k,ae k=ae k:=λ_=>rfl
def a{α:Sort _}{w:α}:w=w:=rfl
section
variable{S:Prop}
abbrev n.{bz}(α:Type bz):=List α
def x(t:S:=by omega):=t
def N(t:S:=by grind):=t
def E(t:S:=by simp):=t
def bL(t:S:=by kernel_rfl):=t
def bW(t:S:=by simp;omega):=t
def b9(t:S:=by decide):=t
def ds(t:S:=by simp_all):=t
def ih(t:S:=by grind[ig]):=t
def h0(t:S:=by rw[bQ.len];grind):=t
def sq(t:S:=by simp only[U,a7,bA,a',a_];and_intros<;>omega):=t
def lC(t:S:=by simp[a7]):=t
def q7(t:S:=by simp[G,ar,stepG.exec,Frame.N]):=t
def mf(t:S:=by simp only[phi];omega):=t
def ua(t:S:=by simp only[U,a7,a',a_];omega):=t
def gA(t:S:=by simp[t]):=t
def Oj(t:S:=by have h:k.data.toList.length=k.size:=nd;have u:X.data.toList.length=X.size:=nd;have aj:IntKind.i64.max=9223372036854775807:=rfl;have B:k.data.toList.length+X.data.toList.length<=9223372036854775807:=ck;grind):=t
def m3(t:S:=by simp only[a7];omega):=t
def nW(t:S:=by decide +kernel):=t
def q'(t:S:=by simp only[U,a_];omega):=t
def m4(t:S:=by apply qg;grind):=t
def Fw(t:S:=by show(aQ (9999+1) o _ _).run P b.a=_;unfold aQ;simp[underlying,B]):=t
def kE(t:S:=by simp[bT]):=t
def FR(t:S:=by simp[bT,B,j,h,d,ae,a2.U,bi.U,a1.U,aC.U,z];omega):=t
def wM(t:S:=by simp only[bU,c5];omega):=t
def afK(t:S:=by rw[w];simp only[jq,AK,dv];omega):=t
def OR(t:S:=by unfold Func.isWrapper;first|(rw[br (by decide +kernel)];kernel_rfl)|(rw[bl (by decide +kernel)];exact⟨rfl,rfl⟩)):=t
def ue(t:S:=by rw[<-aV];decide +kernel):=t
def pZ(t:S:=by grind[pQ]):=t
def wN(t:S:=by grind[List.getElem_of_mem]):=t
def ra(t:S:=by cases he):=t
def rb(t:S:=by rw[cV];rfl):=t
def Aa(t:S:=by grind[Ml]):=t
def uf(t:S:=by simp only[U,a7];omega):=t
def Ab(t:S:=by simp[a2.m,bi.m,a1.m,aC.m]):=t
def FT(t:S:=by rw[<-touchAt_old (u:=bz) (eE bp t.bP)];exact bc):=t
def FU(t:S:=by rw[<-touchAt_old (u:=bz) (eE bp t.bP)];exact h):=t
def FV(t:S:=by grind[En]):=t
def Ac(t:S:=by intro y aV afN;grind[wu,nQ]):=t
def QW(t:S:=by simp[-List.all_eq_true,-List.all_eq_false,bT,i,r,w,a2.U,bi.U,a1.U,ae,aj,B]):=t
def Q7(t:S:=by show(aQ (9999+1) o _ _).run P b.a=_;unfold aQ;simp[underlying,j]):=t
def nX(t:S:=by simp;rfl):=t
def Rr(t:S:=by rw[Gp,iF (by omega:e<L.size)];simpa[hp,iF (by omega:e<L.size)]using H):=t
def ug(t:S:=by grind[ki]):=t
def Rx(t:S:=by refine Y.K Tryz.func317 rfl λw=>?_;exact cr rfl (by simp[a7]) (g.ar rfl)):=t
def Ry(t:S:=by simp only[ac,t];exact dC.bind dC.buildSlice (λ_=>dC.pure) _ _):=t
def FW(t:S:=by simp[G,ar,stepG.exec,Frame.N,t]):=t
def Rz(t:S:=by intro hP aj r;match hP,r with|0,_=>exact .inr (by simp[deafBehind])|hP+1,r=>grind):=t
def o2(t:S:=by rfl):=t
def uh(t:S:=by simp[<-bQ.len]):=t
def RA(t:S:=by unfold hc;rw[mt];congr 1;rw[ig (by grind) (0,0)];grind):=t
def o3(t:S:=by simp[w]):=t
def FX(t:S:=by simp only[hp];grind):=t
def RB(t:S:=by show -9223372036854775808<=_/\_<=9223372036854775807;unfold lA;omega):=t
def RC(t:S:=by simp[ac,ck,resolve,invoke,builtin,Builtin.len_,ae,z,goInt,B]):=t
def Ad(t:S:=by simp only[dk,sL]):=t
def RD(t:S:=by unfold fZ;rw[<-qY (eb k.2)];exact H8 _):=t
def FY(t:S:=by grind[List.drop_eq_getElem_cons]):=t
def RE(t:S:=by grind[Array.mapM_eq_mapM_toList,Sem.run_map,Go.Result.andThen_ok]):=t
def RF(t:S:=by rw[show((b.2.1.length:Int)-1).toNat=b.2.1.length-1 by omega];rfl):=t
def FZ(t:S:=by simp only[U,a7,a_];omega):=t
def F0(t:S:=by rw[<-pa];exact gX _ bp):=t
def sn(t:S:=by grind[nM]):=t
def wO(t:S:=by grind[mG]):=t
def Ae(t:S:=by simp[World.freeze,ae]):=t
def F1(t:S:=by simp[bT,a1.m,a1.U]):=t
def ui(t:S:=by simp[bt,aj]):=t
def RG(t:S:=by simp only[joinedFacts,cC];and_intros<;>decide +kernel):=t
def uj(t:S:=by grind[Nat.eq_of_beq_eq_true]):=t
def F2(t:S:=by grind[List.take_append_drop]):=t
def Af(t:S:=by show _*24<=_;omega):=t
def wP(t:S:=by simpa using t):=t
def Ag(t:S:=by unfold mP;grind):=t
def F3(t:S:=by simp[hE,iY,nG,jy]):=t
def F4(t:S:=by unfold jo;split<;>omega):=t
def RH(t:S:=by simp[bT,X,aa,cL,a2.U,bi.U,a1.U,bb]):=t
def RI(t:S:=by simp only[U,a7,a',a_];and_intros<;>omega):=t
def RJ(t:S:=by simp[ac,t,G,Instr.loadAt,Instr.sureAddr]):=t
def F5(t:S:=by simp[bt]):=t
def RK(t:S:=by intro aj r;simp at r;subst r;exact bk_cell _ _ rfl):=t
def Ah(t:S:=by simp[aj]):=t
def so(t:S:=by simp[I]):=t
def F6(t:S:=by rw[Op.bytesLess.eq_def]):=t
def RL(t:S:=by simp[og,e,bC.m,bC.U,sc,aa]):=t
def RM(t:S:=by rw[<-h.bG i (λL W cL=>r ⟨L,W,cL⟩)];exact bc):=t
def Ai(t:S:=by simpa using iK):=t
def uk(t:S:=by simp[jL]):=t
def RN(t:S:=by simp only[U,a7,fq,a',a_];omega):=t
def Aj(t:S:=by cases op<;>rfl):=t
def RO(t:S:=by simp[ac,ck,resolve,invoke,builtin]):=t
def wQ(t:S:=by simp[bU]):=t
def RP(t:S:=by simp only[U,a7,dv,a',a_];omega):=t
def RQ(t:S:=by simp only[U,a7,bA,a',a_];omega):=t
def RR(t:S:=by rw[show IntKind.u64.bits=64 from rfl];omega):=t
def F7(t:S:=by rw[r];simp):=t
def RS(t:S:=by unfold dg;grind[List.take_append_drop]):=t
def RT(t:S:=by simp[ac,t,resolve,invoke,builtin]):=t
def RU(t:S:=by unfold dT;grind[List.take_append_drop]):=t
def F8(t:S:=by unfold e5;grind):=t
def Ak(t:S:=by simp[fN]):=t
def RV(t:S:=by simp only[look];cases af bz o<;>rfl):=t
def NS(t:S:=by simp only[U.Y,U,j,u,fT,a']):=t
def E9(t:S:=by rw[cF.aF.size];omega):=t
def zU(t:S:=by cases u<;>rfl):=t
def E_(t:S:=by simp only[c8,i]):=t
def NT(t:S:=by simp only[U.Y,U,aj,a',a_]):=t
def NU(t:S:=by show(b.a.drew.heap.push _).size=_;simp):=t
def NV(t:S:=by rw[Gm (by simp;omega)];simp;omega):=t
def NW(t:S:=by have:=Lj ed;simp only[a7];omega):=t
def E'(t:S:=by unfold dj;omega):=t
def Fa(t:S:=by simp[Act.eval,stA]):=t
def Fb(t:S:=by simp only[dk,dq]):=t
def Fc(t:S:=by simp only[dk,cS]):=t
def NX(t:S:=by have:=Vc_upd y (⟨1,0,1⟩:WD) g6;grind):=t
def wB(t:S:=by simp[mk]):=t
def NY(t:S:=by simp only[fO,jG,bA];grind):=t
def wC(t:S:=by rw[upd_same];simp):=t
def NZ(t:S:=by simp[World.shape?,bb.heap _ _ bb.cH]):=t
def N1(t:S:=by simp[Frame.enter,Frame.N,pu,cT,i]):=t
def N2(t:S:=by simp only[U];exact aC.U _):=t
def N3(t:S:=by grind[run_store,setCell_eq_setRow]):=t
def afH(t:S:=by simp[deafBehind]):=t
def Fe(t:S:=by simp[bU];omega):=t
def N4(t:S:=by simp only[U,a',a_];omega):=t
def N5(t:S:=by unfold h6;rw[bl];grind):=t
def N6(t:S:=by unfold eQ Region.binds;grind):=t
def N7(t:S:=by simp[bT,F,a1.m,a1.U]):=t
def N8(t:S:=by simp[fx]):=t
def Ff(t:S:=by simp only[gf,nC,bl t];rfl):=t
def N9(t:S:=by have:=eN List.length bq;grind):=t
def zV(t:S:=by simp[ae]):=t
def N_(t:S:=by grind[aaq]):=t
def Fg(t:S:=by grind[Option.isSome_iff_exists]):=t
def afI(t:S:=by rw[<-pa];exact gX _ G):=t
def N'(t:S:=by simp[zeroValue,typeInfo,NP,a]):=t
def Fh(t:S:=by rw[t.len];simp):=t
def Fi(t:S:=by grind[Nr]):=t
def Oa(t:S:=by simp only[gf,nC,dH,e]):=t
def afJ(t:S:=by rw[JF B z aa];grind):=t
def Ob(t:S:=by simp[aM,B,bp]):=t
def Oc(t:S:=by simp only[ac,ck,u]):=t
def Od(t:S:=by simp only[U,dv];omega):=t
def Oe(t:S:=by simp only[U,bA];omega):=t
def Of(t:S:=by rw[<-d];simp only[KK];omega):=t
def Og(t:S:=by unfold e5 at w⊢;grind):=t
def Oh(t:S:=by simp[deafBehind,semEvents]):=t
def Fj(t:S:=by simp[dg]):=t
def Oi(t:S:=by simp[mz,List.drop_take]):=t
def Fk(t:S:=by rw[io bY]):=t
def fu(t:S:=by and_intros<;>omega):=t
def iC(t:S:=by exact .aN (a0.eV (d:=0) ba rfl rfl rfl rfl rfl) rfl):=t
def j5(t:S:=by rw[kK t N];simp):=t
def kD(t:S:=by exact dw _ _ rfl E):=t
def nU(t:S:=by simp[a7];omega):=t
def nV(t:S:=by refine g.cv () [0,1,2] ?_ oy;simp):=t
def o1(t:S:=by refine g.cv () [0,1] ?_ ym;simp):=t
def pY(t:S:=by simp only[U];grind):=t
def q8(t:S:=by exact .aN (a0.fJ rfl rfl Tryz.underlying22 rfl b9) rfl):=t
def q9(t:S:=by simp only[U,cV,c5,B,a7,bA,a',a_];and_intros<;>omega):=t
def q_(t:S:=by and_intros<;>first|rfl|omega):=t
def sj(t:S:=by refine g.freeze 4 1 rfl rfl rfl ?_;exact g.cb ba [] rfl E rfl rfl rfl ft):=t
def sk(t:S:=by show e+1<=_;omega):=t
def sl(t:S:=by exact bX.dk [0] rfl C rfl rfl rfl g5):=t
def sm(t:S:=by simp only[U,a7];and_intros<;>omega):=t
def ub(t:S:=by rw[xg]at this;exact this):=t
def uc(t:S:=by exact g.aM [0] rfl E s_):=t
def ud(t:S:=by simp only[U.Y,U,a',a_];and_intros<;>first|exact bt.same|exact u.2|rfl):=t
def wD(t:S:=by refine g.bC 6 rfl rfl rfl E E ?_;refine g.bC 7 rfl rfl rfl E E ?_;refine cK w rfl C ?_;refine g.cv () [0,1,2] ?_ oy;simp[hA,B]):=t
def wE(t:S:=by exactλu=>⟨.x,.x,.x,.eval (bg:=[]) ba w (cg:=[a7 .i64 _]) rfl lC,.eval (bg:=[]) ba w (cg:=[_,_]) rfl lC,.x,.x,C,.x,C⟩):=t
def wF(t:S:=by simp[hp,xe];split<;>simp):=t
def wG(t:S:=by exact⟨.x,.x,.x,.eval (bg:=[]) ba w (cg:=[a7 .i64 _]) rfl lC,.eval (bg:=[]) ba w (cg:=[_,_]) rfl lC,.x,.x,C,C,C⟩):=t
def wH(t:S:=by exact dx.cU (λ_ _ _ _=>iZ rfl) rfl rfl bz rfl E):=t
def wI(t:S:=by exact cK w rfl C (g.ar rfl)):=t
def wJ(t:S:=by exact aZ rfl C (g.ar rfl)):=t
def wK(t:S:=by simp only[U,w,a7,bA,a',a_];and_intros<;>omega):=t
def wL(t:S:=by refine g.eP 3 ?_;refine g.cW 9 rfl (λ_=>rfl) ?_;refine g.ret ?_;exact⟨⟨_,bt.same⟩,.inl rfl,rfl,rfl,_,_,_,rfl,rfl,rfl,rfl⟩):=t
def zW(t:S:=by simp only[U,cV,c5,ae,a7,bA,a',a_];and_intros<;>omega):=t
def zX(t:S:=by rw[ofEvent_loc_mark bc]at r;cases r):=t
def zY(t:S:=by rw[i];simp only[ae];simp;exact I):=t
def zZ(t:S:=by refine g.bh () [] ?_ (λu i=>absurd i E);simp):=t
def z0(t:S:=by and_intros<;>first|exact j|omega):=t
def z1(t:S:=by grind [SK,aJ.a1,a0.bits]):=t
def z2(t:S:=by refine g.freeze 8 1 rfl rfl rfl ?_;exact g.cb ba [] rfl E rfl rfl rfl ft):=t
def z3(t:S:=by simp only[U,a7,dv,a',a_];and_intros<;>omega):=t
def z4(t:S:=by exact a6 [-16] rfl bJ (g.ax (e+1) rfl E E N x)):=t
def z5(t:S:=by simp only[U,ae,a7,show ef.bytes=8 from rfl,bA,dv,gZ,eM,iI,AL,d'];and_intros<;>first|rfl|omega|(simp[g2,iK];done)):=t
def z6(t:S:=by refine g.aC (qu b w.a2 w.bu w.a7 w.bx w.aP) [] rfl ?_;refine cK r rfl C ?_;refine g.freeze 8 1 rfl rfl rfl ?_;refine g.cb ba [] rfl ?_ rfl rfl rfl ft;simp):=t
def z7(t:S:=by rw[U,aaV t afK]):=t
def z8(t:S:=by rw[r];simp only[U.Y,U,I,dm,gW,a',a_];and_intros<;>first|exact bt.same|exact ae X|rfl|omega):=t
def z9(t:S:=by simp only[U,cV,c5,o,S,a7,bA,a',a_];and_intros<;>omega):=t
def z_(t:S:=by simp only[U,a2.m,a2.U,bi.m,bi.U,a1.m,a1.U,aC.m,aC.U,bC.m,bC.U,w,r,sc,I,i,fq,hH,a',a_];simp):=t
def z'(t:S:=by simp only[U.Y,U,a',a_];omega):=t
def Fl(t:S:=by exact⟨by omega,by omega,by grind[Mk]⟩):=t
def Fm(t:S:=by exact aJ.eval (bg:=[]) ba a9.nil rfl ck):=t
def Fo(t:S:=by simp only[U,a2.m,a2.U,bi.m,bi.U,a1.m,a1.U,aC.m,aC.U,bC.m,bC.U,w,ae,B,s,aa,lI,and_self,fq,hH,a',a_]):=t
def Fp(t:S:=by simp only[U,w,a7,show nB.bytes=32 from rfl,show l1.bytes=24 from rfl,bA,lH,a',a_];and_intros<;>omega):=t
def Fq(t:S:=by refine g.ar rfl ?_;simp[bt,cf]):=t
def Fs(t:S:=by simp only[U,dm,a7,bA,dv,a',a_];and_intros<;>omega):=t
def Ft(t:S:=by obtain rfl:=jF (w rfl);refine aZ rfl C ?_;refine g.ar rfl ?_;simp):=t
def Fu(t:S:=by exact⟨bY,cp,by grind,lW,.refl _ _⟩):=t
def Fv(t:S:=by have:(w==i)=v:=eM.2 N;simp[this]):=t
def Fx(t:S:=by refine g.eP 2 ?_;refine g.cW 9 rfl (λ_=>rfl) ?_;refine g.cW 10 rfl (λ_=>rfl) ?_;refine g.ret ?_;exact⟨⟨_,bt.same⟩,.inl rfl,rfl,rfl,_,_,_,rfl,rfl,rfl,rfl⟩):=t
def Fy(t:S:=by grind [Go.Conc.mem_ofEvents]):=t
def Fz(t:S:=by simp only[U,ae,a7,show oF.bytes=16 from rfl,bA,dv,j',AN,gZ,eM,iI,d',aj,heq,hs,qh,fT,fq,ip,lI,n_,a',a_];and_intros<;>omega):=t
def FA(t:S:=by intro e s ck bp;simp[hp,xe]at bp;split at bp<;>simp at bp):=t
def FB(t:S:=by refine bf e [917] rfl C ?_;exact dw _ _ rfl E):=t
def FC(t:S:=by simp only[U,w,a7,show rP.bytes=32 from rfl,a',a_];and_intros<;>omega):=t
def FD(t:S:=by exact⟨λ_ _ _ _ he=>ra,λ_=>⟨λ_ _ _ _ he=>ra,.inl rfl⟩⟩):=t
def FE(t:S:=by obtain⟨_,I⟩:=Kh bp;simp only[sE]at I;have aj:e<aS.length:=(cO.1 I).1;exact⟨by simp[kv,ln,I],AO aj⟩):=t
def FF(t:S:=by refine g.aM [0] rfl ?_ (λu w=>absurd w E);simp):=t
def FG(t:S:=by refine cK w rfl C ?_;refine g.cv () [0,1] ?_ ym;simp):=t
def FH(t:S:=by simp only[U,w,dv];and_intros<;>omega):=t
def FI(t:S:=by grind[List.pairwise_iff_getElem]):=t
def FJ(t:S:=by rintro -;refine aZ rfl C ?_;rw[<-d,show(k1:Int)+1=((bc.k1:Nat):Int) by omega];refine g.bh bc [0,5,6,7] ?_ YI;simp):=t
def FK(t:S:=by exact⟨t.a.mono x,bT.1,bT.2⟩):=t
def FL(t:S:=by have aj:=bi.cT b.2.1 t (0,[]);simp only[U.Y,U,i,cq.m,a_,a'];exact⟨⟨bt.same,bt.same,bt.same⟩,⟨bt.same,bt.same,bt.same⟩,⟨rfl,bt.same⟩,bt.same,aj⟩):=t
def FM(t:S:=by refine g.aM [0] rfl ?_ (λu w=>absurd w E);simp;rfl):=t
def FN(t:S:=by simp only[U.Y,U,a_,a'];and_intros<;>first|exactλ_ _=>rfl|exact aj|rfl):=t
def FO(t:S:=by refine cK e rfl C (g.aX (bX.mk [0] rfl C rfl rfl rfl g5))):=t
def FP(t:S:=by simp[-al,I];omega):=t
def FQ(t:S:=by and_intros<;>first|omega|rfl):=t
def FS(t:S:=by refine g.bM 6 53 2 rfl rfl (g.bf [nh []] rfl E (g.aM [0] rfl E ?_));grind):=t
def Ol(t:S:=by simp only[U.Y,U,w,pg,cV,a_,a'];and_intros<;>first|exactλ_ _=>rfl|exact aj|rfl):=t
def Om(t:S:=by refine a6 [-9] rfl bW (g.bt rfl rfl ?_);refine aZ rfl C (g.ar rfl ?_);simp[tg (λu s=>w u x)]):=t
def On(t:S:=by refine a6 [16] rfl E (g.aX (bX.mk [0] rfl ?_ rfl rfl rfl h7));simp[tf t B w]):=t
def Oo(t:S:=by exact .eval (bg:=[]) ba a9.nil (cg:=[a7 .i64 (((0:Nat):Int)-((0:Nat):Int))]) rfl lC):=t
def Oq(t:S:=by simp only[U,show nB.bytes=32 from rfl,a',a_];grind):=t
def Ot(t:S:=by simp only[U.Y,U,cV,c5,o,a_,a'];exact lT s x x (λ_ _=>rfl)):=t
def Ou(t:S:=by refine aZ rfl C ?_;exact⟨u,bX.dk [0] rfl C rfl rfl rfl h7⟩):=t
def Ov(t:S:=by simp only[U,U.Y,i,I,r,pT,x9,a_];grind):=t
def Ow(t:S:=by simp only[U,ae,a7,show oF.bytes=16 from rfl,bA,dv,j',AN,gZ,eM,iI,d',heq,hs,qh,fT,fq,ip,lI,n_,a',a_];and_intros<;>omega):=t
def Ox(t:S:=by rw[r];simp only[U.Y,U,I,dm,fp,gC,a',a_];and_intros<;>first|exact bt.same|exact s j X|rfl|omega):=t
def Oy(t:S:=by simp only[U.Y,U,cV,c5,a_,a'];exact lT H x x (λ_ _=>rfl)):=t
def Oz(t:S:=by obtain⟨jD,jd,w6⟩:=t.last Q bT Df oE bQ b';grind):=t
def OA(t:S:=by simp only[U,xA,bA,dv,w,a7];omega):=t
def OB(t:S:=by refine g.ret ?_;exact⟨(),.inl rfl,rfl,rfl,_,_,_,rfl,rfl,rfl,C⟩):=t
def OC(t:S:=by rw[r];simp only[U.Y,U,c5,I,dm,gW,a',a_];and_intros<;>first|exact bt.same|exact B|rfl|omega):=t
def OD(t:S:=by exact a6 [-16] rfl bJ (g.b5 (e+1) rfl E rfl C N x)):=t
def OE(t:S:=by simp only[U.Y,U,dm,gW,a',a_];and_intros<;>first|exact bt.same|exact r|rfl|omega):=t
def OF(t:S:=by refine aZ rfl C (g.aM [0,1] rfl E s' (r:=bJ))):=t
def OG(t:S:=by rw[Deaf_other o x _ g_of_ofEvents];exact t.above e bp):=t
def OH(t:S:=by have aj:(A.toArray++Array.replicate (fn.ntmps-A.toArray.size) K).getD o K=(A[o]?).getD K:=FX;grind):=t
def OI(t:S:=by simp[-al,j,a7,cq.m,cq.U,a2.m,a2.U,z,B.1];and_intros<;>first|omega|grind):=t
def OJ(t:S:=by exact a6 [8] rfl (ff (Kf t)) (g.ar rfl)):=t
def OK(t:S:=by intro _;refine aZ rfl C (g.aM [0] rfl ?_ h7);simp):=t
def OL(t:S:=by simp only[Go.binOp,d',hs,dh,Op.intBits,aj,sg I];exact⟨rfl,rfl⟩):=t
def OM(t:S:=by rw[r];simp only[U.Y,U,ae,a',a_];and_intros<;>first|exact u|exact h|simp|rfl|omega):=t
def ON(t:S:=by simp only[U,bA,a',a_];and_intros<;>omega):=t
def OO(t:S:=by refine a6 [-7] rfl bW (g.bt rfl rfl ?_);refine aZ rfl C (g.ar rfl ?_);rw[U,aaY (λu I=>r u x)]):=t
def OP(t:S:=by have aj:scanDown (λk=>!ltInt k ae[w]!) ae (e) (i-1)=h:=Aa;exact dw () C rfl bw rfl E):=t
def OQ(t:S:=by simp[-al,B,a7,s,c0.C];omega):=t
def OS(t:S:=by refine g.cZ 4 0 2 3 (lt:=_) (cu:=.aw ae d u r) rfl rfl (λ_=>rfl) (λ_=>rfl) (λ_ _=>by decide) ?_;exact g.aM [0] rfl E s_):=t
def OT(t:S:=by simp only[oP,w,ha,aj];grind[Nat.eq_of_beq_eq_true]):=t
def OU(t:S:=by exact⟨b' X,B,λs1 cS=>⟨X,J,Q.rely cS B,B.rely cS,I.trans cS.aY,aj⟩⟩):=t
def OV(t:S:=by simp[ac,ck,resolve,B,Deferred.ofValue,invoke,callFunc,I,r,i]):=t
def OW(t:S:=by simp only[U,Cq,bR.m,w,bR.U];simp[t,lf,w,i,-List.length_flatten]):=t
def OX(t:S:=by have Q:0+((((d.take u).filter λk=>!bc k).length:Nat):Int).toNat=((d.take u).filter λk=>!bc k).length:=x;simp only[U.Y,U,Q,a_,a'];exact aj):=t
def OY(t:S:=by have:=I.bc _ (mF (show b.2.1.length-1<b.2.1.length by omega) (0,[]));omega):=t
def OZ(t:S:=by refine a6 [16] rfl E (g.bS (bX.zero rfl ?_));simp[tf t z w]):=t
def O0(t:S:=by refine g.bC 1 rfl rfl rfl E E ?_;exact g.ar rfl (by simp[w,hA])):=t
def O1(t:S:=by simp only[bc]at J⊢;obtain⟨vJ,afT,afR⟩:=t.dT _ _ bc;grind[mG]):=t
def O2(t:S:=by simp only[U.Y,U,cV,c5,u,e,t,xorNext_toNat,a_,a'];exact lT d x x (λ_ _=>rfl)):=t
def O3(t:S:=by rw[r];simp only[U.Y,U,ae,a',a_];and_intros<;>first|exact u|simp|simp|simp|rfl|omega|simp):=t
def O4(t:S:=by simp only[U,cV,r,aj,w,i,a7,bA,dv,a',a_];and_intros<;>omega):=t
def O5(t:S:=by rw[<-gG,dN]at aj;simp only[hS,eW]at aj;grind):=t
def O6(t:S:=by rw[r];simp only[U.Y,U,ae,a',a_];and_intros<;>first|exact u|exact h|exactλ_ _=>rfl|rfl|omega):=t
def O7(t:S:=by exact⟨(),.inr rfl,rfl,rfl,_,_,_,rfl,rfl,rfl,C⟩):=t
def O8(t:S:=by have aj:scanUp (λk=>!ltInt d2[w]! k) d2 (r) (ef)=h:=FV;exact dw () C rfl bw rfl E):=t
def O9(t:S:=by refine g.cv () [] ?_ ft;simp):=t
def O_(t:S:=by rename_i B;cases t;rw[B]at r;have i:=b8 r;generalize aj:w.tmps.getD I K=aa at i;cases i;rw[key _ aj (by simp[K])]):=t
def O'(t:S:=by simp only[U,I,a7,show ef.bytes=8 from rfl];exact bw):=t
def Pa(t:S:=by refine g.ret ?_;exact⟨⟨_,bt.same⟩,.inl rfl,rfl,rfl,_,_,_,rfl,rfl,rfl,C⟩):=t
def Pb(t:S:=by simp only[U,show td.bytes=16 from rfl,a',a_];grind):=t
def Pc(t:S:=by simp only[U,ku,tX,c5,d,s,I,ae,bA,i];grind):=t
def Pd(t:S:=by exact bX.dk [0,1] rfl C bJ rfl rfl s'):=t
def Pe(t:S:=by exact bN [14,-25] rfl lN (g.ax (e+1) rfl E E N x)):=t
def Pf(t:S:=by simp[w]at t;subst t;obtain⟨i,I⟩:=EA w;grind):=t
def Pg(t:S:=by exact .aN (a0.gY rfl rfl Tryz.underlying22 rfl b9) rfl):=t
def Ph(t:S:=by simp only[U,a7,i,w,fT,bA,dv,a',a_];and_intros<;>omega):=t
def Pj(t:S:=by simp only[h]at j⊢;obtain⟨vJ,bz,Gk⟩:=t.dT _ _ h;grind[mG]):=t
def Pk(t:S:=by simp[G,ar,stepG.exec,Frame.N,B,I,ae,GStep.after,doReturn,bT]):=t
def Pl(t:S:=by rename_i bY;cases t;exact aJ.a1 bb (a0.pick bc bY)):=t
def Pm(t:S:=by refine a6 [19,23] rfl bW (g.aM [0,1,2] rfl ?_ oy);simp):=t
def Pn(t:S:=by exact .ctl ae rfl (λ_=>Mp) λb7 dq=>lX .normal dF ao b7 fL bc (B.rely dq ae) (ae.rely dq) (I.trans dq.aY)):=t
def Po(t:S:=by simp only;rw[h,dm,show ∀w,[w].length=1 fromλ_=>rfl,xf,AZ,Gn N,S,io x];rfl):=t
def Pp(t:S:=by refine bN [-52,55] rfl Ah (g.aM [0] rfl ?_ g5);exact bJ):=t
def Pq(t:S:=by exact a6 [-8] rfl (k9 N_) (g.ar rfl)):=t
def Pr(t:S:=by simp only[U,r,i,bA,lH,a',a_];and_intros<;>omega):=t
def Ps(t:S:=by rw[d];simp[-al];exact bC.a0 _ ae):=t
def Pt(t:S:=by refine cK i rfl ua ?_;exact⟨⟨_,by rw[cV];exact eJ⟩,.inr rfl,rfl,rfl,_,_,_,rfl,rfl,rfl,C⟩):=t
def Pu(t:S:=by rw[w];simp only[U.Y,U,i,a',a_];and_intros<;>first|exact bt.same|exact aj|rfl|omega):=t
def Pv(t:S:=by simp only[U.Y,U,cV,r,aj,w,a_,a'];exact lT u x x (λ_ _=>rfl)):=t
def Pw(t:S:=by exact⟨by simp[aN,MemAct.low],λi r=>by simp[aN,MemAct.touch?]at r,λi r=>by simp[aN,MemAct.touch?]at r,⟨by simp,by simp⟩,by simp⟩):=t
def Px(t:S:=by have afV:bc*a4.size+a4.size<=z*a4.size:=afI;grind):=t
def Py(t:S:=by simp only[U,w,i,a7,show yC.bytes=40 from rfl,show ef.bytes=8 from rfl,bA,lH,a',a_];and_intros<;>omega):=t
def Pz(t:S:=by simp[-al,ki,ae,I,a7];omega):=t
def PA(t:S:=by simp only[U.Y,U,a',a_];and_intros<;>first|exact bt.same|rfl|omega|exact d|exact s|exact d.symm|exact s.symm):=t
def PC(t:S:=by refine jm ?_;change du b (Sem.events P (asInt (.int .i64 0) >>= _) _ _);simp[asInt,asIntOf,IntKind.max];exact .nil):=t
def PD(t:S:=by exact .di (.aN (a0.gY rfl rfl Tryz.underlying22 rfl b9) rfl)):=t
def PE(t:S:=by refine cK t rfl C (g.aM [0] rfl ?_ g5);simp):=t
def PF(t:S:=by refine aZ rfl C (g.ret (.freeze 8 4 rfl rfl rfl (.freeze 9 5 rfl rfl rfl (.of ⟨(),k7.cells ba [0,1] rfl ?_ rfl rfl rfl qx⟩))));simp):=t
def PG(t:S:=by simp only[U,a2.m,bi.m,a1.m,bC.m,e,sc,j];and_intros<;>first|rfl|exact True.intro|exact a2.U _|exact bi.U _|exact a1.U _|exact bC.U _|exact bb):=t
def PH(t:S:=by simp only[U,bT,a1.m,a1.U,fq,bA,dv,a',a_];omega):=t
def PI(t:S:=by rw[I];simp[-al,s6];exact bR.a0 _ _):=t
def PJ(t:S:=by have bc:=B _ ae;simp only[U,i,bH.m,a7];exact⟨by omega,C,C,show(e+1)*32<=_ by omega,bH.U _,bc,by omega,by omega,ff x⟩):=t
def PK(t:S:=by simp only[iW,cC]at this;grind[pr]):=t
def PL(t:S:=by obtain rfl:e=S.2.length:=x;rw[c_];refine a8 i [-15] rfl E (g.aB ?_);refine b_ i rfl C ?_;refine g.bh () [] ?_ (λu h=>absurd h E);simp[hD]):=t
def PM(t:S:=by exact .aN (a0.fJ rfl rfl Tryz.underlying22 rfl w) rfl):=t
def PN(t:S:=by simp only[U.Y,U,cV,a',a_];and_intros<;>first|exact bt.same|exact dN|rfl):=t
def PO(t:S:=by have:=t e (sD.2 bp);simp only[ie,cC]at this;grind):=t
def PP(t:S:=by simp only[Go.binOp,Op.shift,bl (show¬i<0 by omega),t];exact⟨rfl,rfl⟩):=t
def PQ(t:S:=by rw[r];simp only[U.Y,U,ae,a',a_];and_intros<;>first|exact u|simp|simp|grind|rfl|omega|simp):=t
def PR(t:S:=by refine g.cv () [0,1,2] ?_ oy;simp[hA]):=t
def PS(t:S:=by simp only[U,a7,bA,a',a_];and_intros<;>first|rfl|omega):=t
def PT(t:S:=by simp[-al,s,bc,t,a7];omega):=t
def PU(t:S:=by refine g.bh () [0,1] ?_ ym;simp):=t
def PV(t:S:=by simp only[U.Y,U,i,a',a_];and_intros<;>first|exactλ_ _=>rfl|exact r|rfl|omega):=t
def PW(t:S:=by refine g.eP 2 ?_;refine g.cW 9 rfl (λ_=>rfl) ?_;refine g.ret ?_;exact⟨⟨_,bt.same⟩,.inl rfl,rfl,rfl,_,_,_,rfl,rfl,rfl,rfl⟩):=t
def PX(t:S:=by refine aZ rfl C (g.aM [0] rfl ?_ h7);simp):=t
def PY(t:S:=by obtain⟨cS,dq⟩:=ae W gb DK dK N;refine⟨cS,λaj=>?_⟩;obtain⟨L,S,z⟩:=dq aj;refine⟨L,?_,z⟩;simp only[a5.cut,iq,gG,dH];exact S):=t
def PZ(t:S:=by simp only[U,a7,dv,eM,d'];and_intros<;>omega):=t
def P0(t:S:=by simp only[U,cV,r,aj,w,B,i,a7,bA,dv,a',a_];and_intros<;>omega):=t
def P1(t:S:=by have aj:scanUp (λk=>ltInt k d2[w]!) d2 (d) (ef)=h:=FV;exact dw () C rfl bw rfl E):=t
def P2(t:S:=by exact dx.b0 k.tocF [4,5] rfl rfl rfl rfl E rfl rfl rfl (λ_=>rfl) rfl (λ_=>rfl)):=t
def P3(t:S:=by refine a6 [-8] rfl E (g.aB ?_);exact aZ rfl C (g.ar rfl)):=t
def P4(t:S:=by simp only[U,a7,show yC.bytes=40 from rfl,a',a_];and_intros<;>omega):=t
def P5(t:S:=by rw[cL];simp only[U.Y,U,c5,z,Q,dm,gW,a',a_];and_intros<;>first|exact bt.same|exact H|rfl|omega):=t
def P6(t:S:=by refine cr rfl C (g.aM [0] rfl ?_ h7);simp;rfl):=t
def P7(t:S:=by simp[-al,-List.contains_eq_mem,I,t,ae,aC.m,aC.U,a7];omega):=t
def P8(t:S:=by refine⟨i,rfl,?_⟩;rw[bl x];simp[gQ,jH]):=t
def P9(t:S:=by simp only[hc,List.take_zero,h2,o,U.Y,U,a',a_];and_intros<;>first|simp|rfl|omega):=t
def P_(t:S:=by refine bN [52] rfl zV (g.aM [0] rfl ?_ g5);exact bJ):=t
def P'(t:S:=by rw[i];simp[-al];exact bC.a0 _ (cn o e,lB o e)):=t
def Qa(t:S:=by simp only[U.Y,U,bt.same,a',a_];rfl):=t
def Qb(t:S:=by refine a6 [-9] rfl bW (g.aB ?_);refine aZ rfl C (g.aM [0] rfl ?_ h7);simp[tg (λu j=>w u x)]):=t
def Qc(t:S:=by simp[-al,t,ku,tX,i,I,B,r,z];omega):=t
def Qd(t:S:=by refine⟨rfl,λe bp=>?_⟩;rcases e with _|_|_|_|_|_|_|_|e<;>first|rfl|omega):=t
def Qe(t:S:=by obtain⟨rfl,rfl⟩:=t;obtain⟨i,w⟩:=ck;replace w:0<X:=w;simp only[binOp,d',hs,dh,Op.intDiv,show X≠0 by omega];rfl):=t
def Qf(t:S:=by and_intros<;>first|exact bR.U _|rfl|omega):=t
def Qg(t:S:=by rw[r];simp only[U.Y,U,dm,gW,a',a_];and_intros<;>first|exact bt.same|exact ae j|rfl|omega):=t
def Qh(t:S:=by rw[d];simp only[U.Y,U,i,r,z,a2.m,dm,gW,a',a_];and_intros<;>first|exact bt.same|exact s|rfl|omega):=t
def Qi(t:S:=by refine g.cZ 4 0 2 9 (lt:=.aw I e h B) (cu:=.nil) rfl rfl (λ_=>rfl) (λt=>absurd rfl t) (λ_ t=>absurd rfl t) ?_;exact g.aM [0] rfl E s_):=t
def Qj(t:S:=by have aj:=a2.cT b.1 t (0,[]);simp only[U.Y,U,i,bH.m,a_,a'];exact⟨⟨bt.same,bt.same,bt.same⟩,⟨bt.same,bt.same,bt.same⟩,⟨rfl,bt.same⟩,aj,bt.same⟩):=t
def Qk(t:S:=by have aj:((d.take (i0+1)).filter λk=>!bc k).length=i0:=afJ;simp[aj]):=t
def Ql(t:S:=by exact .aN (Kl 0 rfl rfl rfl lC (λJ=>rfl) (λJ=>rfl)) rfl):=t
def Qm(t:S:=by simp[-al,z,o,bH.m,bH.U,t]):=t
def Qn(t:S:=by refine⟨by grind[nM],by grind,?_⟩;rw[<-r,uV,ae,show w+L / 4*2-1+(3-(h+1))+1=w+L / 4*2-1+(3-h) by omega]):=t
def Qo(t:S:=by simp only[aM];grind[setRow_other]):=t
def Qp(t:S:=by subst d;exact⟨.bool m,by simp[ac,t,i,I,w,binOp,h],Rd.bool,by simp[ac,t,i,I,w,ae,binOp,h,B]⟩):=t
def Qq(t:S:=by simp only[U.Y,U,w,i,pg,cV,a_,a'];and_intros<;>first|exactλ_ _=>rfl|exact z|rfl):=t
def Qr(t:S:=by rw[h.bG i (eE cT t.size) (dw i cT jn),t.bG i cT jn]):=t
def Qs(t:S:=by simp[-al,bz,o,bT,i,s,bH.m,bH.U,a7];omega):=t
def Qt(t:S:=by refine⟨by grind,bb,by grind,λe bp=>bz e N⟩):=t
def Qu(t:S:=by have aj:=di cT;subst aj;exact DL (W:=W) (V:=dK) (b8 B) E uh):=t
def Qv(t:S:=by refine b_ i rfl bJ (g.ax (e+1) rfl E ?_ t x);simp):=t
def Qw(t:S:=by and_intros<;>first|exact bt.same|exact mm|rfl):=t
def Qx(t:S:=by have bc:=I _ ae;simp only[U,i,cq.m,a7];exact⟨by omega,C,C,show(e+1)*32<=_ by omega,cq.U _,bc.1,bc.2,by omega,by omega,ff x⟩):=t
def Qy(t:S:=by have aj:scanUp (λk=>ltInt k ae[w]!) ae (i-1) (w+1)=h:=FV;exact dw () C rfl bw rfl E):=t
def Qz(t:S:=by simp only[U,xA,bA,dv,w];omega):=t
def QA(t:S:=by subst t;cases k<;>cases X<;>simp only at I<;>simp[binOp,w]):=t
def QB(t:S:=by rw[ae];simp only[U.Y,U,i,bR.m,j,ir,dm,gW,a',a_];and_intros<;>first|exact bt.same|exact Q|rfl|omega):=t
def QC(t:S:=by intro j t;rw[fp,List.range'_succ];refine⟨by simpa using t 0 s rfl,w (j+1) λu i J'=>?_⟩;have:=t (u+1) i N;grind):=t
def QD(t:S:=by refine b_ w rfl bJ ?_;refine g.aN (yR ((min (ae+8) o.length:Nat):Int) rfl rfl rfl x d) rfl rfl ?_;refine b_ w rfl C (g.ar rfl ?_);simp[aj]):=t
def QE(t:S:=by rw[i];simp only[U.Y,U,c5,I,r,bH.m,aC.m,dm,gW,a',a_];and_intros<;>first|exact bt.same|exact d|rfl|omega):=t
def QF(t:S:=by rw[i];simp only[U.Y,U,c5,I,dm,gW,a',a_];and_intros<;>first|exact bt.same|exact d|rfl|omega):=t
def QG(t:S:=by refine g.cb ba [] rfl ?_ rfl rfl rfl ft;simp):=t
def QH(t:S:=by rw[h];simp only[dm,gW,U.Y,U,w,a',a_];and_intros<;>first|exact z|simp|rfl|omega):=t
def QI(t:S:=by simp only[U.Y,U,a_,a',rq];exact⟨bt.same,bt.same,bt.same⟩):=t
def QJ(t:S:=by simp[-al];exact bC.a0 _ ae):=t
def QK(t:S:=by exact aJ.eval (bg:=[]) ba a9.nil rfl (nA b d j i t)):=t
def QL(t:S:=by rw[r];simp only[U.Y,U,c5,u,dm,gW,a',a_];and_intros<;>first|exact bt.same|exact d|rfl|omega):=t
def QM(t:S:=by simp only[U,a7,aj,r,e,bA,dv,a',a_];omega):=t
def QN(t:S:=by simp[-al,z,j,o,bH.m,bH.U,t,a7];omega):=t
def QO(t:S:=by subst d;exact⟨.bool v,by simp[ac,t,i,I,w,binOp,h],Rd.bool,by simp[ac,t,i,I,w,ae,binOp,h,B]⟩):=t
def QP(t:S:=by refine a6 [-9] rfl bw (g.aB ?_);exact aZ rfl C (g.ar rfl)):=t
def QQ(t:S:=by simp only[U,a7,show ef.bytes=8 from rfl,bA,dv,gZ,eM,d'];and_intros<;>first|rfl|omega|(simp[g2];done)):=t
def QR(t:S:=by simp only[U,cV,r,aj,w,h,B,i,a7,bA,dv,a',a_];and_intros<;>omega):=t
def QS(t:S:=by and_intros<;>first|exact bR.U _|exact e3.U _|omega):=t
def QT(t:S:=by simp only[U,cV,c5,Q,S,a7,bA,a',a_];and_intros<;>omega):=t
def QU(t:S:=by simp only[U,a2.m,bi.m,a1.m,bC.m,e,sc,s];and_intros<;>first|rfl|exact True.intro|exact a2.U _|exact bi.U _|exact a1.U _|exact bC.U _|exact bb):=t
def QV(t:S:=by simp[-al,-List.contains_eq_mem,I,t,ae,aC.m,aC.U,a7,show l1.bytes=24 from rfl];omega):=t
def QX(t:S:=by simp[-al,j,s,a7,cq.m,cq.U,a2.m,a2.U,z,B.1];and_intros<;>first|omega|grind):=t
def QY(t:S:=by and_intros<;>first|exactλ_ _=>rfl|exact aj|rfl|omega):=t
def QZ(t:S:=by have aj:scanDown (λk=>!ltInt k d2[w]!) d2 (fz) (d)=h:=Aa;exact dw () C rfl bw rfl E):=t
def Q0(t:S:=by simp only[U,bT,a1.m,a1.U,fq,bA,a',a_];omega):=t
def Q1(t:S:=by show f (E1.R (Q.c (nC b.1 e (.slice (f ⟨i,0,p⟩) ah.length cap) (0+(e:Int).toNat))))=_;rw[j,nC,br rfl]):=t
def Q2(t:S:=by generalize iw J aj=bc at *;refine bf bz [-44,-50,54,58] rfl kE (g.aM [0,1,2] rfl ?_ oy);simp):=t
def Q3(t:S:=by rw[w];simp only[U.Y,U,dm,fp,gC,a',a_];and_intros<;>first|exactλ_ _=>rfl|exact bb|rfl|omega):=t
def Q4(t:S:=by exact⟨by exact cQ,λi h=>by exact cQ,⟨by simp,by simp⟩,by simp⟩):=t
def Q5(t:S:=by rename_i aj;subst aj;intro pre vr;refine .ctl ae rfl (λ_=>Mo (gb:=h) (by rw[vr];simp[exitTo])) λb7 dq=>?_;exact lX .normal dF ao b7 fL bc (B.rely dq ae) (ae.rely dq) (I.trans dq.aY)):=t
def Q6(t:S:=by have aj:I[e]?=(d.filter λk=>!bc k)[e]?:=N;refine(NR wM).trans ?_;simp only[c0.fn,gv,al,aj]):=t
def Q8(t:S:=by refine bN [-14] rfl bW (g.aB ?_);exact cr rfl C (g.ar rfl)):=t
def Q9(t:S:=by rw[hv]at t;cases t;exact fc.di (dS aV aj i ck) ae h):=t
def Q_(t:S:=by simp[-al,-List.length_take,I,ki,i,B,r,a7];omega):=t
def Q'(t:S:=by refine bN [-52,-55] rfl bw (g.aM [0] rfl ?_ g5);simp[ae,aj,qD,De]):=t
def Ra(t:S:=by simp only[U,B,r,i,bC.m,bC.U,lI,and_self,fT,a',a_]):=t
def Rb(t:S:=by simp only[U,a7,bA,dv,a',a_];and_intros<;>omega):=t
def Rc(t:S:=by have i:=(aV o e bp).run_underlying (J:=b.a);rw[ae]at i;simp[ac,t,w,I,Instr.index,asIntOf,i,J',B]):=t
def Re(t:S:=by obtain⟨S,L1,cS,dq,bb⟩:=t.box d bY L aG w;obtain⟨o,u,k1,ae,B⟩:=h.box d S L1 cS dq;exact⟨o,u,k1,ae,bb.trans B⟩):=t
def Rf(t:S:=by have:=I.a2 _ (mF (show b.1.length-1<b.1.length by omega) (0,[]));omega):=t
def Rg(t:S:=by simp only[U,bH.m,w,bT];and_intros<;>first|exact bH.U _|rfl|exact True.intro|grind):=t
def Rh(t:S:=by have aj:scanDown (λk=>ltInt d2[w]! k) d2 (fz) (r)=h:=Aa;exact dw () C rfl bw rfl E):=t
def Ri(t:S:=by have aj:=JF B z aa;refine⟨by omega,rfl,?_,λ_ _=>rfl⟩;grind):=t
def Rj(t:S:=by obtain⟨e,s,i,w⟩:=Dc t;exact⟨e+1,s,by grind,w⟩):=t
def Rk(t:S:=by refine aZ rfl C ?_;exact⟨(),.inr rfl,rfl,rfl,_,_,_,rfl,rfl,rfl,C⟩):=t
def Rl(t:S:=by simp only[dH]at I;subst I;exact cr rfl C (g.ar rfl)):=t
def Rm(t:S:=by simp[-al,I,r];omega):=t
def Rn(t:S:=by simp only[U,a7,aj,r,z,bA,eq_self,a',a_];omega):=t
def Ro(t:S:=by and_intros<;>first|exact bt.same|rfl|omega|exact r|exact I|exact r.symm|exact I.symm|(intro e bp;match e,bp with|0,_=>rfl)|(simp only[rq];omega)):=t
def Rp(t:S:=by rintro -;refine cK r rfl C ?_;refine g.cv () [] ?_ ft;simp):=t
def Rq(t:S:=by refine a6 [-19,23] rfl bW (g.aM [0,1,2] rfl ?_ oy);simp):=t
def Rs(t:S:=by simp[-al,z,j,t,g2,a7,cq.m,cq.U,a2.m,a2.U,bi.U,a1.U,s,bc.1];and_intros<;>first|omega|grind):=t
def Rt(t:S:=by simp only[U.Y,U,cV,c5,a_,a'];exact lT bz x x (λ_ _=>rfl)):=t
def Ru(t:S:=by simp at I;subst I;exact⟨_,rfl,.inr ⟨rfl,rfl⟩⟩):=t
def Rv(t:S:=by simp[ac,ck,resolve,r,Deferred.ofValue,invoke,I]):=t
def Rw(t:S:=by refine g.cZ 4 0 9 2 (lt:=.nil) (cu:=.aw ae d u r) rfl rfl (λt=>absurd rfl t) (λ_=>rfl) (λt=>absurd rfl t) ?_;exact g.aM [0] rfl E s_):=t
end
end Go
namespace Go.AM
instance{j:Nat}:OfNat (Nat×Bool) j:=⟨(j,true)⟩
instance:Neg (Nat×Bool):=⟨λk=>(k.1,false)⟩
inductive O where
  |int (h:IntKind) (j:Int)
  |bool (i:Bool)
  |T (b:List UInt8)
  |C (tight:Bool) (h j:Nat) (V:Nat->List O)
  |Q (ai:List O)
  |bb
  |cl (o:aq) (r:O)
  |cG (o:aq) (ai:List O)
  |br
  |fn (ae:Fn) (first cap:List O)
  |dd
  |val (k:Z)
inductive p0 where
  |C (B h s j:Nat)
  |bz (B h e ae:Nat)
def p0.g:p0->Nat
  |.C B _ _ _=>B
  |.bz B _ _ _=>B
def p0.f_:p0->Z->Z->Prop
  |.C _ h l k,d,i=>∃j e a b,i=.slice j k a/\k<=a/\l+a=b/\b<=9223372036854775807/\d=.slice e 0 b/\(0<a->∃g,e=f ⟨g,0,p⟩/\j=f ⟨g,l*h,p⟩)
  |.bz _ h o n,d,i=>∃g b,d=.slice (f ⟨g,0,p⟩) 0 b/\i=.pointer (f ⟨g,o*h+n,p⟩)
inductive Q where
  |c (k:O)
  |ptr (d off:Nat)
  |w (d h j:Nat) (V:Nat->List O)
  |aV (d:Nat)
  |S (d:Nat) (J:p0)
  |any
abbrev Q.v(a:Z):Q:=.c (.val a)
inductive E1 where
  |R (w:Q)
  |agg (ai:List Q)
inductive y where
  |p (k:E1)
  |ae (ah:List E1)
  |any
abbrev bI:=n (Nat×y)
def look:bI->Nat->y
  |[],_=>.any
  | (d,b)::e,a=>cond (af d a) b (look e a)
inductive an where
  |cells (W:aq) (ai:List Q)
  |w (W:aq) (h j:Nat) (V:Nat->List O)
  |J (H:Z->(Nat->Option Obj)->Prop)
  |M
  |loop (D:Nat) (F:bI) (bb:Loop)
  |bo
  |q (W:aq) (h j:Nat) (V:Nat->List O)
@[simp] def an.dR:an->Bool
  |.w _ _ _ _=>m
  |.q _ _ _ _=>m
  |_=>v
structure Loc where
  v:Z
  al:n Nat
abbrev Mem:=Nat->Nat->Option Z
structure a5 where
  t:n Loc
  E:Mem
  a:au
  own:Nat->Prop
def a7:IntKind->Int->Prop
  |.i8,a=>-128<=a/\a<=127
  |.i16,a=>-32768<=a/\a<=32767
  |.i32,a=>-2147483648<=a/\a<=2147483647
  |.i64,a=>-9223372036854775808<=a/\a<=9223372036854775807
  |.u8,a=>0<=a/\a<=255
  |.u16,a=>0<=a/\a<=65535
  |.u32,a=>0<=a/\a<=4294967295
  |.u64,a=>0<=a/\a<=18446744073709551615
def dY:Z->Bool
  |.agg _|.tuple _=>v
  |_=>m
def p0.f_.cell{b:p0}{aa3 aa}(a:b.f_ aa3 aa):dY aa=m:=by
  cases b with
  |C=>obtain⟨_,_,_,_,rfl,_⟩:=a;rfl
  |bz=>obtain⟨_,_,_,rfl⟩:=a;rfl
inductive Rd (bD:Mem):Z->O->Prop
  |int {h:IntKind} {j:Int} (t:a7 h j):Rd bD (.int h j) (.int h j)
  |bool {i:Bool}:Rd bD (.bool i) (.bool i)
  |T {b:ByteArray} {d:List UInt8} (t:b.data.toList=d) (gG:c d<=9223372036854775807):Rd bD (.string b) (.T d)
  |C {w:Option Addr} {j cap:Nat} {tight:Bool} {h:Nat} {V:Nat->List O} (i off:Nat) (ae:Nat->Nat->Z)
      (afQ:j<=cap) (cT:cap<=9223372036854775807) (afW:tight=m->cap=j) (bT:∀e,e<j->c (V e)=h)
      (afO:0<j->w=f ⟨i,off,p⟩)
      (pv:∀e,e<j->∀u r,(V e)[u]?=f r->bD i (off+e*h+u)=f (ae e u))
      (Ka:∀e,e<j->∀u r,(V e)[u]?=f r->Rd bD (ae e u) r):Rd bD (.slice w j cap) (.C tight h j V)
  |Q {ai:List O} (i off:Nat) (ae:Nat->Z)
      (pv:∀u r,ai[u]?=f r->bD i (off+u)=f (ae u))
      (Ka:∀u r,ai[u]?=f r->Rd bD (ae u) r):Rd bD (.pointer (f ⟨i,off,p⟩)) (.Q ai)
  |bb:Rd bD (.pointer p) .bb
  |cl {o:aq} {aa:Z} {r:O} (t:Rd bD aa r) (afP:dY aa=m):Rd bD (.iface o aa) (.cl o r)
  |cG {o:aq} {A:List Z} {ai:List O} (gG:c A=c ai)
      (ae:Nat->Z) (pu:∀u,u<c A->A[u]?=f (ae u)) (Ka:∀u r,ai[u]?=f r->Rd bD (ae u) r):Rd bD (.iface o (.agg A.toArray)) (.cG o ai)
  |br:Rd bD .nilIface .br
  |fn {B:Fn} {first cap:List O} (h8 ai:List Z) (gG:c h8=c first) (afS:c ai=c cap) (f1 f2:Nat->Z)
      (cS:∀u,u<c h8->h8[u]?=f (f1 u)) (dq:∀u,u<c ai->ai[u]?=f (f2 u))
      (af1:∀u r,first[u]?=f r->Rd bD (f1 u) r) (af2:∀u r,cap[u]?=f r->Rd bD (f2 u) r):Rd bD (.func B h8.toArray ai.toArray) (.fn B first cap)
  |dd:Rd bD .nilFunc .dd
  |val {k:Z} (t:dY k=m):Rd bD k (.val k)
theorem Rd.bp{bD}{aa k}(a:Rd bD aa (.val k)):aa=k:=by cases a;rfl
def Rd.cell{bD}{aa}{r}(a:Rd bD aa r):dY aa=m:=by cases a<;>first|rfl|assumption
def Rd.mono{bD l}(J:∀k K aa,bD k K=f aa->l k K=f aa){aa}{r}(h:Rd bD aa r):Rd l aa r:=by
  induction h with
  |int h=>exact .int h
  |bool=>exact .bool
  |T h e=>exact .T h e
  |C k g n M D F E B j q b=>
    exact .C k g n M D F E B (λI i d r a=>J _ _ _ (j I i d r a)) (λI i d r a=>b I i d r a)
  |Q k g n j q b=>exact .Q k g n (λd r a=>J _ _ _ (j d r a)) (λd r a=>b d r a)
  |bb=>exact .bb
  |cl h N b=>exact .cl b N
  |cG e n O q b=>exact .cG e n O (λd r a=>b d r a)
  |br=>exact .br
  |fn y u e o w x z A R S s t=>exact .fn y u e o w x z A (λd r a=>s d r a) (λd r a=>t d r a)
  |dd=>exact .dd
  |val h=>exact .val h
def cx(h:n an)(i:a5)(b:Z):Q->Prop
  |.c w=>Rd i.E b w
  |.ptr a l=>(∀j,h[a]?=f j->j.dR=v)/\∃L u,i.t[a]?=f L/\L.v=.pointer (f ⟨u,0,p⟩)/\b=.pointer (f ⟨u,l,p⟩)
  |.w a q e d=>Rd i.E b (.C v q e d)/\a<c h/\∀o r g k,h[a]?=f (an.w o r g k)->e<=g/\(g=e->∃L,i.t[a]?=f L/\b=L.v)
  |.aV a=>(∀j,h[a]?=f j->j.dR=v)/\∃L,i.t[a]?=f L/\b=L.v/\dY b=m
  |.S a s=>∃t,s.f_ t b/\a<c h/\∀o q e d,h[a]?=f (an.q o q e d)->s.g<=e/\(s.g=e->∃L,i.t[a]?=f L/\L.v=t)
  |.any=>dY b=m
def bO(b:n an)(d:a5):n Z->n Q->Prop
  |[],[]=>True
  |g::A,e::a=>cx b d g e/\bO b d A a
  |_,_=>False
def ez(b:n an)(d:a5)(e:Z):E1->Prop
  |.R g=>cx b d e g
  |.agg a=>∃A:n Z,e=.agg A.toArray/\bO b d A a
def eV(b:n an)(d:a5):n Z->n E1->Prop
  |[],[]=>True
  |g::A,e::a=>ez b d g e/\eV b d A a
  |_,_=>False
def bx(b:n an)(d:a5)(e:Z):y->Prop
  |.p g=>ez b d e g
  |.ae a=>∃A:n Z,e=.tuple A.toArray/\eV b d A a
  |.any=>True
def b6(b:n an)(d:a5):n Z->n y->Prop
  |[],[]=>True
  |g::A,e::a=>bx b d g e/\b6 b d A a
  |_,_=>False
structure e1(bD:Mem)(h j:Nat)(V:Nat->n O)(A:n Z):Prop where
  len:c A=j*h
  bJ:∀e,e<j->c (V e)=h
  rd:∀e,e<j->∀(u:Nat) (r:O),(V e)[u]?=f r->∃aa,A[e*h+u]?=f aa/\Rd bD aa r
def e1.mono{bD a}(l:∀i k aa,bD i k=f aa->a i k=f aa){h j}{b:Nat->n O}{A}(d:e1 bD h j b A):e1 a h j b A:=
  ⟨d.len,d.bJ,λq e r o g=>let ⟨aa,cS,dq⟩:=d.rd q e r o g;⟨aa,cS,dq.mono l⟩⟩
def ey(u:n an)(b:a5):an->Loc->Prop
  |.cells l s,L=>∃a A,L=⟨.pointer (f ⟨a,0,p⟩),[a]⟩/\b.a.heap[a]?=f (.cells (List.toArray A) l (0,0))/\bO u b A s/\∀d,b.E a d=p
  |.w l j g e,L=>Rd b.E L.v (.C v j g e) /\
      (((L.al=[]/\g=0)/\Rd b.E L.v (.C m j g e)) ∨
       ∃a h A,L=⟨.slice (f ⟨a,0,p⟩) g h,[a]⟩/\b.a.heap[a]?=f (.cells (List.toArray A) l (0,0))/\c A=h*j/\∀d,g*j<=d->b.E a d=p)
  |.J H,L=>∃i,H L.v i/\(∀a d,i a=f d->b.a.heap[a]?=f d)/\(∀a,a∈L.al↔(i a).isSome=m)/\∀a∈L.al,∀d,b.E a d=p
  |.M,_=>True
  |.loop y x k,L=>∃r tmps fn t,L=⟨.func (.yield r) #[] #[],[r]⟩/\b.a.heap[r]?=f (.loop {k with tmps:=tmps,fn:=fn,defers:=t})/\tmps.size=y/\(∀w,bx u b (tmps.getD w K) (look x w))/\∀d,b.E r d=p
  |.bo,L=>∃k:Nat,L=⟨.int .i64 k,[k]⟩/\b.a.heap[k]?=f (.deferred (f []))/\∀d,b.E k d=p
  |.q l j g e,L=>(g=0/\L=⟨.slice p 0 0,[]⟩)∨∃a q A o,L=⟨.slice (f ⟨a,0,p⟩) 0 q,[a]⟩/\b.a.heap[a]?=f (.cells (List.toArray (A++o)) l (0,0))/\c (A++o)=q*j/\g<=q/\q<=9223372036854775807/\e1 b.E j g e A/\∀d,b.E a d=p
structure bd(l:n an)(b:a5):Prop where
  mem:∀i s aa,b.E i s=f aa->b.a.cell? ⟨i,s,p⟩=f aa
  len:c b.t=c l
  box:∀(d:Nat) (bY:an) (L:Loc),l[d]?=f bY->b.t[d]?=f L->ey l b bY L
  a3:∀(d kR:Nat) (L cp:Loc),b.t[d]?=f L->b.t[kR]?=f cp->∀i∈L.al,i∈cp.al->d=kR
  lt:∀L∈b.t,∀i∈L.al,i<b.a.heap.size
  own:∀i,b.own i->i<b.a.heap.size/\∀L∈b.t,i∉L.al
def fJ:an->Loc->an->Loc->Prop
  |.w _ _ d _,L,.w _ _ b _,a=>(b=d->a.v=L.v)/\d<=b
  |.w _ _ _ _,_,.M,_=>True
  |.w _ _ _ _,_,_,_=>False
  |.q _ _ d _,L,.q _ _ b _,a=>(b=d->a.v=L.v)/\d<=b
  |.q _ _ _ _,_,.M,_=>True
  |.q _ _ _ _,_,_,_=>False
  |_,_,.w _ _ _ _,_=>False
  |_,_,.q _ _ _ _,_=>False
  |.M,L,.M,a=>a.v=L.v
  |.M,_,_,_=>False
  |.bo,L,.bo,a=>a.v=L.v
  |.bo,_,_,_=>False
  |_,_,.bo,_=>False
  |_,L,_,a=>a.v=L.v
structure fm(l:n an)(b:a5)(ao:n an)(az:a5):Prop where
  mem:∀i s aa,b.E i s=f aa->az.E i s=f aa
  box:∀(d:Nat) (bY:an) (L:Loc),l[d]?=f bY->b.t[d]?=f L->∃ec cp,ao[d]?=f ec/\az.t[d]?=f cp/\fJ bY L ec cp
structure cN(l:n an)(b:a5)(ao:n an)(az:a5):Prop where
  size:b.a.heap.size<=az.a.heap.size
  a6:∀i,i<b.a.heap.size->(∀L∈b.t,i∉L.al)->az.a.heap[i]?=b.a.heap[i]?
  mem:∀i s aa,b.E i s=f aa->az.E i s=f aa
  bG:∀i,i<b.a.heap.size->(∀L∈b.t,i∉L.al)->∀s,az.E i s=b.E i s
  bW:∀cp∈az.t,∀i∈cp.al,b.a.heap.size<=i∨∃L∈b.t,i∈L.al
  box:∀(d:Nat) (bY:an) (L:Loc),l[d]?=f bY->b.t[d]?=f L->∃ec cp,ao[d]?=f ec/\az.t[d]?=f cp/\fJ bY L ec cp
  os:az.a.os=b.a.os
  tape:az.a.tape=b.a.tape
  output:az.a.output=b.a.output
  own:az.own=b.own
structure dd(l:n an)(b:a5)(ao:n an)(az:a5):Prop where
  size:b.a.heap.size<=az.a.heap.size
  a6:∀i,b.own i->az.a.heap[i]?=b.a.heap[i]?
  mem:∀i s aa,b.E i s=f aa->az.E i s=f aa
  bG:∀i,i<b.a.heap.size->(∀L∈b.t,i∉L.al)->∀s,az.E i s=b.E i s
  bW:∀cp∈az.t,∀i∈cp.al,b.a.heap.size<=i∨∃L∈b.t,i∈L.al
  box:∀(d:Nat) (bY:an) (L:Loc),l[d]?=f bY->b.t[d]?=f L->∃ec cp,ao[d]?=f ec/\az.t[d]?=f cp/\fJ bY L ec cp
  os:az.a.os=b.a.os
  tape:az.a.tape=b.a.tape
  output:az.a.output=b.a.output
  own:az.own=b.own
structure cU(b az:a5):Prop where
  t:az.t=b.t
  E:az.E=b.E
  own:az.own=b.own
  size:b.a.heap.size<=az.a.heap.size
  a6:∀i,(b.own i∨∃L∈b.t,i∈L.al)->az.a.heap[i]?=b.a.heap[i]?
  mem:∀i s aa,b.E i s=f aa->az.a.cell? ⟨i,s,p⟩=f aa
  os:az.a.os=b.a.os
  tape:az.a.tape=b.a.tape
  output:az.a.output=b.a.output
def h5(d:a5)(b:aT):Prop:=
  match b.loc with
  |.cell a=>b.sync=v/\a.spot=p/\(False∨((∃L∈d.t,a.block∈L.al)/\(b.write=m->d.E a.block a.off=p))∨(b.write=v/\∃i,d.E a.block a.off=f i))
  |.obj h=>b.sync=v/\(False∨∃L∈d.t,h∈L.al)
  |.mark e=>e=.noRoom∨∃g,e=.extern g
  |_=>False
def du(d:a5)(a:Array aT):Prop:=∀b∈a,h5 d b
def du.nil{b}:du b #[]:=by intro a d;grind
def fJ.refl(a)(L):fJ a L a L:=by cases a<;>simp[fJ]
def fJ.trans{g d a}{L e b}(i:fJ g L d e)(h:fJ d e a b):fJ g L a b:=by
  cases g<;>cases d<;>cases a<;>simp_all[fJ]
  all_goals
    grind
def cN.refl(l)(b):cN l b l b:=
  ⟨bE _,λ_ _ _=>rfl,λ_ _ _ a=>a,λ_ _ _ _=>rfl,λL a h d=>.inr ⟨L,a,d⟩,λ_ e L a g=>⟨e,L,a,g,.refl _ _⟩,rfl,rfl,rfl,rfl⟩
def cN.trans{l aO a}{b e b7}(t:cN l b aO e)(h:cN aO e a b7):cN l b a b7:=by
  have dw:∀i,i<b.a.heap.size->(∀L∈b.t,i∉L.al)->∀L∈e.t,i∉L.al:=by
    intro i cT jn L w g;rcases t.bW L w i g with cS|⟨x,s,n⟩
    · omega
    grind
  refine⟨fM t.size h.size,?_,λi k y j=>h.mem _ _ _ (t.mem _ _ _ j),?_,?_,?_,h.os.trans t.os,h.tape.trans t.tape,h.output.trans t.output,h.own.trans t.own⟩
  · intro i cT jn
    rw[h.a6 i (eE cT t.size) (dw i cT jn),t.a6 i cT jn]
  · intro i cT jn k
    exact Qr
  · intro L w i cT
    rcases h.bW L w i cT with cS|⟨L1,r,q⟩
    · exact .inl (fM t.size cS)
    grind
  · intro d bY L aG w
    exact Re
def dd.refl(l)(b):dd l b l b:=
  ⟨bE _,λ_ _=>rfl,λ_ _ _ a=>a,λ_ _ _ _=>rfl,λL a h d=>.inr ⟨L,a,d⟩,λ_ e L a g=>⟨e,L,a,g,.refl _ _⟩,rfl,rfl,rfl,rfl⟩
def dd.trans{l aO a}{b e b7}(t:dd l b aO e)(h:dd aO e a b7):dd l b a b7:=by
  have dw:∀i,i<b.a.heap.size->(∀L∈b.t,i∉L.al)->∀L∈e.t,i∉L.al:=by
    intro i cT jn L w g;rcases t.bW L w i g with cS|⟨x,s,n⟩
    · omega
    grind
  refine⟨fM t.size h.size,?_,λi k y j=>h.mem _ _ _ (t.mem _ _ _ j),?_,?_,?_,h.os.trans t.os,h.tape.trans t.tape,h.output.trans t.output,h.own.trans t.own⟩
  · intro i cT
    rw[h.a6 i (by rw[t.own];exact cT),t.a6 i cT]
  · intro i cT jn k
    exact Qr
  · intro L w i cT
    rcases h.bW L w i cT with cS|⟨L1,r,q⟩
    · exact .inl (fM t.size cS)
    grind
  · intro d bY L aG w
    exact Re
def cN.too'{l ao}{b az}(e:bd l b)(a:cN l b ao az):dd l b ao az:=
  ⟨a.size,λg d=>a.a6 g (e.own g d).1 (e.own g d).2,a.mem,a.bG,a.bW,a.box,a.os,a.tape,a.output,a.own⟩
def dd.ext{l ao}{b az}(a:dd l b ao az):fm l b ao az:=⟨a.mem,a.box⟩
def cU.refl{l}{b}(a:bd l b):cU b b:=⟨rfl,rfl,rfl,bE _,λ_ _=>rfl,a.mem,rfl,rfl,rfl⟩
def cU.aY{l}{b az}(a:cU b az):dd l b l az:=
  ⟨a.size,λg d=>a.a6 g (.inl d),λg k n i=>by rw[a.E];exact i,λ_ _ _ _=>by rw[a.E],λL e g d=>.inr ⟨L,by rw[<-a.t];exact e,d⟩,
    λj h L aG e=>⟨h,L,aG,by rw[a.t];exact e,.refl _ _⟩,a.os,a.tape,a.output,a.own⟩
def cN.ext{l ao}{b az}(a:cN l b ao az):fm l b ao az:=⟨a.mem,a.box⟩
section mono
variable {l ao:n an}{b az:a5}
def fm.hF(k:fm l b ao az){a:Nat}{L}(j:b.t[a]?=f L)(n:c b.t=c l)(h:∀d,l[a]?=f d->d.dR=v):
    (∀d,ao[a]?=f d->d.dR=v)/\∃e,az.t[a]?=f e/\e.v=L.v:=by have i:a<c l:=N;obtain⟨g,e,k1,q,r⟩:=k.box a (l[a]) L (bG i) j;have o:=h _ (bG i);generalize l[a]=d at *;rw[k1];cases d<;>cases g<;>simp_all[fJ,an.dR]
def cx.mono(i:fm l b ao az)(s:c b.t=c l){aa}{w}(j:cx l b aa w):cx ao az aa w:=by
  cases w with
  |c V=>exact Rd.mono i.mem j
  |any=>exact j
  |ptr a K=>
    obtain⟨h,L,N,e,z,F⟩:=j;obtain⟨q,d,k1,A⟩:=i.hF e s h;exact⟨q,d,N,k1,by grind,F⟩
  |w a S T O=>
    obtain⟨B,k,Q⟩:=j;obtain⟨u,d,k1,A,r⟩:=i.box a (l[a]) (b.t[a]'x) (bG k) (bG x);have y:a<c ao:=(cO.1 k1).1;refine⟨Rd.mono i.mem B,y,λM C q n g=>?_⟩;rw[g]at k1;cases k1;have aG:=bG k;generalize l[a]=t at *;cases t with
    |w eL D I o=>
      obtain⟨R,J⟩:=r;grind
    |_=>simp[fJ]at r
  |aV a=>
    obtain⟨h,L,e,z,F⟩:=j;obtain⟨q,d,k1,A⟩:=i.hF e s h;exact⟨q,d,k1,by grind,F⟩
  |S a U=>
    obtain⟨E,B,k,Q⟩:=j;obtain⟨u,d,k1,A,r⟩:=i.box a (l[a]) (b.t[a]'x) (bG k) (bG x);have y:a<c ao:=(cO.1 k1).1;refine⟨E,B,y,λM C q n g=>?_⟩;rw[g]at k1;cases k1;have aG:=bG k;generalize l[a]=t at *;cases t with
    |q eL D I o=>
      obtain⟨R,J⟩:=r;grind
    |_=>simp[fJ]at r
def bO.mono(g:fm l b ao az)(a:c b.t=c l){A}{ai}(e:bO l b A ai):bO ao az A ai:=by
  induction A generalizing ai with
  |nil=>cases ai<;>simp_all[bO]
  |cons i A d=>
    cases ai with
    |nil=>simp[bO]at e
    |cons h ai=>exact⟨e.1.mono g a,d e.2⟩
def ez.mono(g:fm l b ao az)(a:c b.t=c l){aa}{k}(h:ez l b aa k):ez ao az aa k:=by
  cases k with
  |R j=>exact cx.mono g a h
  |agg i=>obtain⟨A,d,e⟩:=h;exact⟨A,d,e.mono g a⟩
def eV.mono(h:fm l b ao az)(a:c b.t=c l){A}{ah}(e:eV l b A ah):eV ao az A ah:=by
  induction A generalizing ah with
  |nil=>cases ah<;>simp_all[eV]
  |cons j A d=>
    cases ah with
    |nil=>simp[eV]at e
    |cons i g=>exact⟨e.1.mono h a,d e.2⟩
def bx.mono(h:fm l b ao az)(a:c b.t=c l){aa}{d}(i:bx l b aa d):bx ao az aa d:=by
  cases d with
  |p k=>exact ez.mono h a i
  |ae j=>obtain⟨A,e,g⟩:=i;exact⟨A,e,g.mono h a⟩
  |any=>trivial
def b6.mono(h:fm l b ao az)(a:c b.t=c l){A}{ah}(e:b6 l b A ah):b6 ao az A ah:=by
  induction A generalizing ah with
  |nil=>cases ah<;>simp_all[b6]
  |cons j A d=>
    cases ah with
    |nil=>simp[b6]at e
    |cons i g=>exact⟨e.1.mono h a,d e.2⟩
end mono
def i_(e:n an)(h:a5):n Deferred->n Nat->Prop
  |[],[]=>True
  |i::b,d::a=>(e[d]?=f .bo/\∃(L:Loc) (g:Nat),h.t[d]?=f L/\L.v=.int .i64 g/\i={target:=.collected g,args:=#[]})/\d∉a/\i_ e h b a
  |_,_=>False
def i_.mono{l ao}{b az}(k:fm l b ao az):∀{a:n Deferred} {d:n Nat},i_ l b a d->i_ ao az a d
  |[],[],_=>trivial
  |[],_::_,e=>e.elim
  |_::_,[],e=>e.elim
  |w::a,u::d,⟨⟨i,L,e,j,x,s⟩,t,o⟩=>by
    obtain⟨g,h,k1,q,r⟩:=k.box u _ L i j;cases g<;>simp[fJ]at r
    exact⟨⟨k1,h,e,q,by grind,s⟩,t,i_.mono k o⟩
def jU:n an->Bool
  |[]=>m
  |.bo::_=>v
  |_::a=>jU a
def vH:∀{e:n an},jU e=m->∀a∈e,a≠.bo
  |[],_,a,aG=>by grind
  |d::g,h,a,aG=>by
    have b:d≠.bo/\jU g=m:=by cases d<;>simp_all[jU]
    rcases fr.1 aG with rfl|aG
    · exact b.1
    · exact vH b.2 a aG
theorem mD{b}{a}{wr}{L}(d:L∈b.t)(e:a∈L.al):h5 b ⟨.obj a,wr,v⟩:=⟨rfl,.inr ⟨L,d,e⟩⟩
def du.R{b}{a}(e:h5 b a):du b #[a]:=by intro k d;grind
def du.fp{b}{d a}(h:h5 b d)(g:h5 b a):du b #[d,a]:=by intro i e;grind
def bw{S:Prop}(t:S:=by simp<;>omega):S:=t
def cQ{S:Prop}(t:S:=by((try simp only[U,U.Y,a7,bA,dv,c5,cV,dm,gW,fp,gC,k8,List.length_take,d',eM,gZ,iI,dh,dH,fT,ip,fq,hH,hs,qh,cC,jG,j',lI,n_,lH,a_,a']);and_intros<;>first|rfl|omega|trivial|assumption)):S:=t
def hu{S:Prop}(t:S:=by((try simp only[*,U,U.Y,a7,bA,dv,c5,cV,dm,gW,fp,gC,k8,List.length_take,d',eM,gZ,iI,dh,dH,fT,ip,fq,hH,hs,qh,cC,jG,j',lI,n_,lH,a_,a']);and_intros<;>first|rfl|omega|trivial|assumption)):S:=t
def lN{S:Prop}(t:S:=by(simp_all[U,U.Y,a7,bA,dv,c5,cV,dm,gW,fp,gC,k8,List.length_take,d',eM,gZ,iI,dh,dH,fT,ip,fq,hH,hs,qh,cC,jG,j',lI,n_,lH,a_,a']<;>omega)):S:=t
def bJ{S:Prop}(t:S:=by((try simp only[*,U,U.Y,a7,bA,dv,c5,cV,dm,gW,fp,gC,k8,List.length_take,d',eM,gZ,iI,dh,dH,fT,ip,fq,hH,hs,qh,cC,jG,j',lI,n_,lH,a_,a',a2.m,a1.m,bi.m,bH.m,aC.m,bC.m,bR.m,cq.m,e3.m,a2.U,a1.U,bi.U,bH.U,aC.U,bC.U,bR.U,cq.U,e3.U]);and_intros<;>first|rfl|omega|trivial|assumption)):S:=t
abbrev aw(a:O):y:=.p (.R (.c a))
abbrev aD(a b:Nat):y:=.p (.R (.ptr a b))
abbrev cz(a:Nat)(b:p0):y:=.p (.R (.S a b))
abbrev cM(a:Value):y:=.p (.R (.c (.val a)))
variable {j z:Nat}{h:Int}{d i e u:Nat}{W:aq}{H:Z->(Nat->Option Obj)->Prop}{L:Array Bool}{bD:Mem}{D:Nat}{P:aI}{bq:ak->a5->Prop}{r:Code}{B:ak}{s:ap}{b:a5}{o:aq}{aa:Z}{k X:aA}{α:Type}{η:aA->y}{ι:Type}{l:n an}{F:bI}{all:n ap}{dn:Array aq}{cap:n O}{cR:n y}{lc:Nat->Option Obj}{ai:n aL}{bg:n (Nat×Bool)}{V:Nat->n O}{cP:aA}{gs:Array ak}{aS:n Nat}{cg:n Prop}{off:Nat}{op:BinOp}{aH:Array ap}{ab:n Prop}{bs:n ap}{az:a5}{ty:aq}{val:Nat->Nat->Z}{A:n Z}{bj:au}{ah:Array aA}{ao de:n an}{res:ι->y}{aO:ι->n an}
def Kp{P}{k}:∀{o:n (String×DataW Unit)}{d:n MemPlace},DataW.LaidVars P k o d->∀{e:String}{h:DataW Unit},(e,h)∈o ->
  ∃i j b a q,P.globalNamed e=f i/\(P.globals[i]?).map (·.type)=f j/\k.var? P e=f b/\DataW.trod (λ_=>()) P k 0 (λ_=>m) v a j b.toList=f (h,q)
 |[],_,_,_,_,g=>by cases g
 |(z,t)::B,d,s,e,h,g=>by
  obtain⟨i,j,b,a,q,A,x,u,y,w,r,_⟩:=s;rcases fr.1 g with l|l
  .grind
  exact Kp r l
theorem Mw{P}{a:au}(b:a.ShapedOpen P){B}{zero}{o}(d:B<P.globals.size)(h:(((begin P (λ_ _=>0) default).world.heap[B]?).bind Obj.row?)=f (zero,o)){j}(k:P.globalNamed j=f B){ai}(e:a.var? P j=f ai):
  a.heap[B]?=f (.cells ai o (0,0)):=by obtain⟨g,i,_⟩:=b.1 B zero o d h;unfold World.var? at e;grind
def Kr{P}{b}{g:n (String×DataW Unit)}(l:laidMetH P g b)(h:b.ShapedOpen P){j e}{k}(F:(j,.iface e k)∈g.filter λE=>E.2.handleName?.isNone){B o r}{ct}{zero}(d:P.globalNamed j=f B)(y:(P.globals[B]?).map (·.type)=f o)(x:P.underlying o=f (.interface ct))(D:B<P.globals.size)(I:(((begin P (λ_ _=>0) default).world.heap[B]?).bind Obj.row?)=f (zero,r)):∃a:aq×Z,b.heap[B]?=f (.cells #[.iface a.1 a.2] r (0,0)):=by obtain⟨w,q,_⟩:=(laidMetH_iff.1 l).1;obtain⟨Q,J,i,K,M,u,s,z,t⟩:=Kp q F;cases d.symm.trans u;cases y.symm.trans s;obtain⟨_,A,C,a,_⟩:=iface_of_trod x t;have:=Mw h D I d z;rw[Array.eq_one_of_toList a]at this;exact⟨(A,C),this⟩
def aaO{P}{a}{d}(o:laidMetH P d a)(y:a.ShapedOpen P){j}{e}{b}(w:(j,e)∈d.filter λx=>x.2.handleName?.isSome)(l:e.funcsIn?=p)(t:e.handleName?=f b){B i h ty}{zero}(F:P.globalNamed j=f B)(s:(P.cutTypes.find? (·.1== "internal/reflectlite.rtype")).map (·.2)=f h)(D:((aB P.types.size).filter λg=>P.rowNamed g b)=[ty])(E:B<P.globals.size)(Q:(((begin P (λ_ _=>0) default).world.heap[B]?).bind Obj.row?)=f (zero,i)):a.heap[B]?=f (.cells #[.iface h (.agg #[typeHandle P ty])] i (0,0)):=by have:=(laidMetH_iff.1 o).2 _ w;rw[l]at this;obtain⟨name,C,k,n,u,q,r,A⟩:=this;cases t.symm.trans n;cases s.symm.trans u;have z:k∈(aB P.types.size).filter λg=>P.rowNamed g b:=kJ.2 ⟨sD.2 q,r⟩;grind[Mw]
section
open Go.Conc (G listed)
def kG(e b:a5)(d:Array aT):Prop:=(∃g a,bd g e/\bd a b/\cN g e a b)/\du e d
structure ag(P:aI) where
 b7:Bool
 rely:a5->a5->Prop
 dq:ak->a5->(ak->a5->Prop)->Prop
 bO:∀{b az},rely b az->cU b az
 dU:Prop
class ag.b8 {P:aI} (q:ag P):Prop where
 ok:q.dU
structure eY(b az:a5):Prop where
 a:az.a=b.a
 mem:∀i s aa,b.E i s=f aa->az.E i s=f aa
 bG:∀i,(∀L∈b.t,i∉L.al)->∀s,az.E i s=b.E i s
 cell:∀i s aa,az.E i s=f aa->b.a.cell? ⟨i,s,p⟩=f aa
 blk:∀i,(az.own i∨∃L∈az.t,i∈L.al)->b.own i∨∃L∈b.t,i∈L.al
structure n2(b az:a5):Prop where
 a:az.a=b.a
 t:az.t=b.t
 own:az.own=b.own
 e8:∀i s aa,az.E i s=f aa->b.E i s=f aa
 mem:∀i s aa,b.E i s=f aa->az.E i s=f aa∨b.own i
inductive cc {P:aI} (q:ag P) (bq:ak->a5->Prop):ak->a5->Prop
 |stop {B:ak} {b:a5}:bq B b->cc q bq B b
 |step {B:ak} {b:a5} (K2:a5->ak) (bu:a5->a5) (KZ:a5->Array aT):B.status=.running ->
   (∀s1,q.rely b s1->ar P q.b7 B s1.a=.go (K2 s1) (bu s1).a (KZ s1))->(∀s1,q.rely b s1->kG s1 (bu s1) (KZ s1))->(∀s1,q.rely b s1->cc q bq (K2 s1) (bu s1))->cc q bq B b
 |aU {B:ak} {b az:a5}:eY b az->cc q bq B az->cc q bq B b
 |b4 {B:ak} {b az:a5}:q.dU->n2 b az->cc q bq B az->cc q bq B b
 |dq {B:ak} {b:a5} {ad:ak->a5->Prop}:q.dq B b ad->(∀hl az,ad hl az->cc q bq hl az)->cc q bq B b
section
variable {q:ag P}
def cc.next(h:B.status=.running)(i:∀r,q.rely b r->∃a az V,ar P q.b7 B r.a=.go a az.a V/\kG r az V/\cc q bq a az):cc q bq B b:=by
 classical
 have d:∀r,∃bb:ak×a5×Array aT,q.rely b r->ar P q.b7 B r.a=.go bb.1 bb.2.1.a bb.2.2/\kG r bb.2.1 bb.2.2/\cc q bq bb.1 bb.2.1:=by
  intro r;by_cases e:q.rely b r
  .obtain⟨a,az,V,cS⟩:=i r e;exact⟨(a,az,V),λ_=>cS⟩
  exact⟨(B,r,#[]),λg=>absurd g e⟩
 refine .step (λr=>(Classical.choose (d r)).1) (λr=>(Classical.choose (d r)).2.1) (λr=>(Classical.choose (d r)).2.2) h N N ?_;grind
theorem eY.of(k:bd l b)(n:bd ao az)(o:az.a=b.a)(h:dd l b ao az):eY b az:=by
 have u:∀a g i,az.E a g=f i->b.a.cell? ⟨a,g,p⟩=f i:=λa g i j=>by rw[<-o];exact n.mem a g i j
 have r:∀a g i,b.a.cell? ⟨a,g,p⟩=f i->a<b.a.heap.size:=by
  intro a g i j;rcases d6 a b.a.heap.size with d|d
  .exact d
  simp[aM,AS d]at j
 refine⟨o,h.mem,λa e g=>?_,u,λa e=>?_⟩
 .rcases d6 a b.a.heap.size with d|d
  .exact h.bG a d e g
  cases t:az.E a g with
  |some i=>grind
  |none=>cases s:b.E a g with
   |none=>rfl
   |some i=>have:=r _ _ _ (k.mem _ _ _ s);omega
 rcases e with e|⟨L,q,e⟩
 .exact .inl (by rw[<-h.own];exact e)
 rcases h.bW L q a e with d|d
 .have:=n.lt L q a e;grind
 grind
def bd.rely(k:bd l b)(h:cU b az):bd l az:=by
 have s:fm l b l az:=h.aY.ext;have X:∀u x,cx l b u x->cx l az u x:=λu x w=>w.mono s k.len;refine⟨λj r u B=>h.mem j r u (by rw[<-h.E];exact B),by rw[h.t];exact k.len,?_,by rw[h.t];exact k.a3,?_,?_⟩
 .intro d D L aG n;rw[h.t]at n;have e:=k.box d D L aG n;have K:∀j∈L.al,az.a.heap[j]?=b.a.heap[j]?:=λj e=>h.a6 j (.inr ⟨L,ca n,e⟩);cases D with
  |cells E F=>
   obtain⟨j,A,g,i,o,q⟩:=e;subst g;exact⟨j,A,a,by grind,o.mono s k.len,λr=>by rw[h.E,q]⟩
  |w E O R z=>
   obtain⟨g,i⟩:=e;refine⟨by rw[h.E];exact g,?_⟩;rcases i with⟨i,o⟩|⟨j,cap,A,i,o,q,t⟩
   .exact .inl ⟨i,by rw[h.E];exact o⟩
   subst i;exact .inr ⟨j,cap,A,a,by grind,q,λr C=>by rw[h.E,t r C]⟩
  |J H=>
   obtain⟨y,g,i,o,q⟩:=e;refine⟨y,g,λj r W=>?_,o,λj I r=>by rw[h.E,q j I]⟩;grind
  |M=>trivial
  |loop V U w=>
   obtain⟨d,tmps,fn,J,g,i,o,q,t⟩:=e;subst g;exact⟨d,tmps,fn,J,a,by grind,o,λT=>(q T).mono s k.len,λr=>by rw[h.E,t]⟩
  |bo=>
   obtain⟨w,g,i,o⟩:=e;subst g;exact⟨w,a,by grind,λr=>by rw[h.E,o]⟩
  |q E O R z=>
   rcases e with e|⟨j,S,A,Q,g,i,o,q,t,M,N⟩
   .exact .inl e
   subst g;exact .inr ⟨j,S,A,Q,a,by grind,o,q,t,by rw[h.E];exact M,λr=>by rw[h.E,N]⟩
 .intro L n j e;rw[h.t]at n;exact eE (k.lt L n j e) h.size
 intro j e;rw[h.own]at e;rw[h.t];exact⟨eE (k.own j e).1 h.size,(k.own j e).2⟩
def kG.aW(a:bd l b):kG b b #[]:=⟨⟨l,l,a,a,.refl _ _⟩,.nil⟩
def _root_.Go.Frame.N(b:aL)(a:Act)(todo:n Item):aL:={b with tmps:=a.tmps,todo:=todo,defers:=a.defers++b.defers,mode:=.run}
variable {i:aL}{w:Act}{h:n Item}{J:au}{eS:Bool}
def Jz(a:aL)(w)(r):(a.N w r).eval=w.eval:=by funext k;cases k<;>rfl
def Mt:ar P eS (G (i.N w (.code .skip::h)) ai) J=.go (G (i.N w h) ai) J:=q7
def Mp{id}:ar P eS (G (i.N w (.inBlock id::h)) ai) J=.go (G (i.N w h) ai) J:=q7
theorem pM{k X}:ar P eS (G (i.N w (.code (.seq k X)::h)) ai) J=.go (G (i.N w (.code k::.code X::h)) ai) J:=q7
def zk{r}{k X}{o}(b:w.eval r=.bool o):
  ar P eS (G (i.N w (.code (.cond r k X)::h)) ai) J=.go (G (i.N w (.code (if o then k else X)::h)) ai) J:=by
 have a:(i.N w (.code (.cond r k X)::h)).eval r=.bool o:=by rw[Jz];exact b
 simp[Frame.N]at a;simp[G,ar,stepG.exec,Frame.N,a]
def zj{id}:ar P eS (G (i.N w (.code (.block id r)::h)) ai) J=.go (G (i.N w (.code r::.inBlock id::h)) ai) J:=q7
def Mr:ar P eS (G (i.N w (.code (.loop r)::h)) ai) J=.go (G (i.N w (.code r::.inLoop r::h)) ai) J:=q7
def Mq:ar P eS (G (i.N w (.inLoop r::h)) ai) J=.go (G (i.N w (.code r::.inLoop r::h)) ai) J:=q7
def Mo{id}{gb}(t:exitTo id h=f gb):ar P eS (G (i.N w (.code (.exit id)::h)) ai) J=.go (G (i.N w gb) ai) J:=FW
def zm{id}:ar P eS (G (i.N w (.code (.region id aH v)::h)) ai) J=.go (G (i.N w (.inRegion aH (aB aH.size)::h)) ai) J:=q7
def Es{id}:ar P eS (G (i.N w (.code (.region id aH m)::h)) ai) J =
  .go (G (i.N w (.inRegion aH (Region.schedule (P.follows .mixedOrders) aH (J.tape J.drawn (.order i.fn id)))::h)) ai) {J with drawn:=J.drawn+1}:=by simp[G,ar,stepG.exec,Frame.N,choose,Sem.run,Question.forced,Question.cut]
def v_:ar P eS (G (i.N w (.inRegion aH []::h)) ai) J=.go (G (i.N w h) ai) J:=q7
def Et(t:i.roundOf=p):ar P eS (G (i.N w (.code .ret::h)) ai) J=.go (G {i.N w (.code .ret::h)with mode:=.returning} ai) J:=FW
def Er(t:i.roundOf=p):ar P eS (G (i.N w []) ai) J=.go (G {i.N w []with mode:=.returning} ai) J:=FW
def qw(aH)(e)(bs)(aa):
  (i.N w (.inRegion aH (e::bs)::h)).finish aa=i.N (w.put ((aH[e]?).bind (·.dst)) aa) (.inRegion aH bs::h):=by cases a:(aH[e]?).bind (·.dst)<;>simp[Frame.finish,Frame.N,Act.put,a]
def acV{bs}(a:aH[e]?=f s)(d:aU s (yielded aH w.tmps)=v):
  ar P eS (G (i.N w (.inRegion aH (e::bs)::h)) ai) J=.go (G (i.N (w.put s.dst K) (.inRegion aH bs::h)) ai) J:=by have b:=qw (i:=i) (w:=w) (h:=h) aH e bs K;rw[a]at b;simp[oc]at b;rw[<-b];simp[G,ar,stepG.exec,Frame.N,a,d]
theorem x8{a:aA->Z}{r}(h:s.op=.defer r){e}(b:(ac a s).run P J=.ok e bj):∃d,e=.defer d:=by
 simp[ac,h,cI]at b;cases g:(resolve a r s.type).run P J with
 |ok d w2=>rw[g]at b;simp at b;grind
 |halt i w2=>simp_all
def zl{a:n Nat}(b:aH[e]?=f s)(j:aU s (yielded aH w.tmps)=m)(k:∀g,s.op≠.defer g):
  ar P eS (G (i.N w (.inRegion aH (e::a)::h)) ai) J=stepG.apply P m (i.N w (.inRegion aH (e::a)::h)) ai p (ac w.eval s) J:=by have d:=Jz i w (.inRegion aH (e::a)::h);simp[Frame.N]at d;simp[G,ar,stepG.exec,stepG.oper,Frame.oper?,Frame.N,b,j,d];grind
theorem ac1{bs}(a:aH[e]?=f s)(g:aU s (yielded aH w.tmps)=m)(k:i.kind≠.early)(j:(ac w.eval s).run P J=.ok (.value aa) bj):
  ar P eS (G (i.N w (.inRegion aH (e::bs)::h)) ai) J=.go (G (i.N (w.put s.dst aa) (.inRegion aH bs::h)) ai) bj (listed P i.fn w s J):=by have b:=qw (i:=i) (w:=w) (h:=h) aH e bs aa;rw[a]at b;simp[oc]at b;have d:(i.kind==CallKind.early)=v:=N;rw[zl a g (λl n=>by grind[x8]),<-b];simp[stepG.apply,j,G,Frame.N,d,GStep.after,listed]
theorem Ms{bs}(a:aH[e]?=f s)(g:aU s (yielded aH w.tmps)=m)(k:i.kind≠.early)(j:(ac w.eval s).run P J=.ok .skip bj):
  ar P eS (G (i.N w (.inRegion aH (e::bs)::h)) ai) J=.go (G (i.N (w.put s.dst K) (.inRegion aH bs::h)) ai) bj (listed P i.fn w s J):=by have b:=qw (i:=i) (w:=w) (h:=h) aH e bs K;rw[a]at b;simp[oc]at b;have d:(i.kind==CallKind.early)=v:=N;rw[zl a g (λl n=>by grind[x8]),<-b];simp[stepG.apply,j,G,Frame.N,d,GStep.after,listed]
def tN{bs}{b}{args}(a:aH[e]?=f s)(g:aU s (yielded aH w.tmps)=m)(k:i.kind≠.early)(j:(ac w.eval s).run P J=.ok (.enter b args) bj):
  ar P eS (G (i.N w (.inRegion aH (e::bs)::h)) ai) J=.go (G (Frame.enter P b args .normal) (i.N w (.inRegion aH (e::bs)::h)::ai)) bj (listed P i.fn w s J):=by have d:(i.kind==CallKind.early)=v:=N;rw[zl a g (λl n=>by grind[x8])];simp[stepG.apply,j,G,Frame.N,d,GStep.after,listed]
structure mj(P:aI)(ae:a3)(hx:aL)(aa:Z)(b:a5):Prop where
 ji:hx.fn=ae
 mode:hx.mode=.returning
 defers:hx.defers=[]
 kind:hx.kind=.normal
 fn:∃fn,P.funcs[hx.fn]?=f fn/\∀J,(∀i s bz,b.E i s=f bz->J.cell? ⟨i,s,p⟩=f bz)->(results fn hx.tmps).run P J=.ok aa J/\∀aj∈(results fn hx.tmps).events P J #[],∃i s bz,aj=⟨.cell ⟨i,s,p⟩,v,v⟩/\b.E i s=f bz
def mj.mono{g}{hx}(n:mj P g hx aa b)(r:∀e h i,b.E e h=f i->az.E e h=f i):mj P g hx aa az:=by obtain⟨a,d,l,j,fn,k,q⟩:=n;refine⟨a,d,l,j,fn,k,λs o=>?_⟩;grind
def du.seen{b}{V}{fn}(e:du b V):du b (seen P fn V):=λd a=>e d (Go.Conc.mem_seen a)
def acU{k}{B r}(g:mj P k B aa b)(J)(l:∀a e h,b.E a e=f h->J.cell? ⟨a,e,p⟩=f h):∃d,ar P eS (G B (r::ai)) J=.go (G (r.finish aa) ai) J d/\∀i∈d,∃a e h,i=⟨.cell ⟨a,e,p⟩,v,v⟩/\b.E a e=f h:=by obtain⟨fn,n,j⟩:=g.fn;obtain⟨s,q⟩:=j J l;refine⟨seen P B.fn ((results fn B.tmps).events P J #[]),?_,λi o=>q i (Go.Conc.mem_seen o)⟩;simp[G,ar,unwind,doReturn,g.mode,g.defers,g.kind,n,s,GStep.after]
end
end
structure bZ(D:Nat)(l:n an)(b:a5)(F:bI)(w:Act):Prop where
 size:w.tmps.size=D
 defers:∃nH,i_ l b w.defers nH
 aK:∀o,bx l b (w.tmps.getD o K) (look F o)
def bZ.mono{D}{l ao}{b az}{F}{w}(g:dd l b ao az)(e:c b.t=c l)(a:bZ D l b F w):bZ D ao az F w:=
 ⟨a.size,a.defers.imp λ_ d=>d.mono g.ext,λh=>(a.aK h).mono g.ext e⟩
def bZ.rely{w}(e:cU b az)(a:bd l b)(d:bZ D l b F w):bZ D l az F w:=d.mono e.aY a.len
def bZ.put{D}{l}{b}{F}{w}(a:bZ D l b F w){I}(e:I<D){aa}{k}(j:bx l b aa k):bZ D l b ((I,k)::F) (w.put (f I) aa):=by
 refine⟨by simp[Act.put,a.size],a.defers,λd=>?_⟩;simp[Act.put,look];by_cases g:I=d
 .subst g;rw[show af I I=m from sL I];have h:I<w.tmps.size:=by rw[a.size];exact e
  simp[hp,uK h,ir,cond];exact j
 have:af I d=v:=uj;rw[this];have i:=a.aK d;simp[hp]at i⊢;grind
def iD(h a:bI):Prop:=∀b d g e,bx b d g (look h e)->bx b d g (look a e)
def bZ.le{dF}{w}(d:iD F dF)(a:bZ D l b F w):bZ D l b dF w:=
 ⟨a.size,a.defers,λe=>d _ _ _ _ (a.aK e)⟩
abbrev fv:=Exit->bI->n an->Prop
def kO(h:ag P)(g:ak->a5->Prop)(i:aL)(k:n Item)(a:n aL):Exit->Act->a5->Prop
 |.normal,b,d=>cc h g (G (i.N b k) a) d
 |.exit id,b,d=>∀pre,(∀e,exitTo id (pre++e)=exitTo id e)->cc h g (G (i.N b (.code (.exit id)::(pre++k))) a) d
 |.ret,b,d=>∀pre,cc h g (G (i.N b (.code .ret::pre)) a) d
 |.panic j,b,d=>∀l,cc h g (G {i.N b l with mode:=.panicking j} a) d
 |_,_,_=>False
section
variable {q:ag P}{i:aL}{h:n Item}{w:Act}
def kO.cons{k}(n:∀id a,exitTo id (k::a)=exitTo id a){e}(l:e≠.normal)(d:kO q bq i h ai e w b):kO q bq i (k::h) ai e w b:=by
 cases e with
 |normal=>grind
 |exit id=>
  intro pre j;have:=d (pre++[k]) (λa=>by grind);grind
 |ret=>exact d
 |panic g=>exact d
 |goto o=>exact d
 |outgrown=>exact d
def cc.ctl{a}(g:bd l b)(j:B.status=.running)(i:∀h,ar P q.b7 B h=.go a h #[])(k:∀d,cU b d->cc q bq a d):cc q bq B b:=
 .next j λd e=>⟨a,d,#[],i d.a,.aW (g.rely (q.bO e)),k d (q.bO e)⟩
def uP{j}{u r}(t:bd l b)(k:mj P j u aa b)(n:∀d,cU b d->cc q bq (G (r.finish aa) ai) d):cc q bq (G u (r::ai)) b:=by refine .next a λd w=>?_;have e:=q.bO w;have h:=t.rely e;obtain⟨g,o,y⟩:=acU (eS:=q.b7) (r:=r) (ai:=ai) k d.a e.mem;refine⟨_,d,g,o,⟨⟨l,l,h,h,.refl _ _⟩,λi s=>?_⟩,n d e⟩;obtain⟨A,B,z,rfl,x⟩:=y i s;exact⟨a,a,.inr (.inr ⟨a,z,by rw[e.E];exact x⟩)⟩
def xo(k:Nat->Act->a5->Prop)(y:∀j w b,k j w b->∃n,bd n b/\∀g,cU b g->k j w g)(round:∀j w b,k j w b->(∀d e l,l<j->k l d e->cc q bq (G (i.N d (.inLoop r::h)) ai) e)->cc q bq (G (i.N w (.code r::.inLoop r::h)) ai) b)(B:k j w b):
  cc q bq (G (i.N w (.code (.loop r)::h)) ai) b:=by
 have key:∀j w b,k j w b->cc q bq (G (i.N w (.inLoop r::h)) ai) b:=by
  intro j;induction j using Nat.strongRecOn with
  |_ j A=>
   intro w b x;obtain⟨n,s,t⟩:=y j w b x;exact .ctl s a (λC=>Mq) λg u=>round j w g (t g u) λd e l z o=>A l z d e o
 obtain⟨n,s,t⟩:=y j w b B;exact .ctl s a (λC=>Mr) λg u=>round j w g (t g u) λd e l _ o=>key l d e o
end
def b2(o:ag P)(k:Nat)(u:Code)(aP:fv)(t:bI)(i:n an):Prop:=
 ∀h q,bZ k i h t q->bd i h->∀j s g (l:ak->a5->Prop),j.kind≠.early ->
  (∀r d a b e,aP r d a->bZ k a b d e->bd a b->dd i h a b->kO o l j s g r e b)->cc o l (G (j.N q (.code u::s)) g) h
def n4(a:n ap):n Nat->n ap->Prop
 |[],[]=>True
 |d::idx,e::b=>a.toArray[d]?=f e/\n4 a idx b
 |_,_=>False
def fc(r:ag P)(o:Nat)(d e:n ap)(aP:bI->n an->Prop)(u:bI)(k:n an):Prop:=
 ∀j s,bZ o k j u s->bd k j->∀(l:aL) t i (q:ak->a5->Prop) idx,l.kind≠.early->n4 d idx e ->
  (∀g a b h,aP g a->bZ o a b g h->bd a b->dd k j a b->cc r q (G (l.N h t) i) b)->cc r q (G (l.N s (.inRegion d.toArray idx::t)) i) j
section rules
variable {q:ag P}{aP:fv}
def b2.mono{n}(x:b2 q D r aP F l)(y:∀a F l,aP a F l->n a F l):b2 q D r n F l:=
 λb s u j t A g o i h=>x b s u j t A g o i λa d ao az e B z w k=>h a d ao az e (y _ _ _ B) z w k
def b2.le{r}{dF}(n:b2 q D r aP dF l)(g:iD F dF):b2 q D r aP F l:=
 λs i k e j o a h d b=>n s i (k.le g) e j o a h d b
theorem b2.skip(k:aP .normal F l):b2 q D .skip aP F l:=λs e i d o r h n _ g=>
 .ctl d a (λ_=>Mt) λj b=>g .normal F l j e k (i.rely b d) (d.rely b) b.aY
def b2.ret(h:aP .ret F l):b2 q D .ret aP F l:=λj b g a n i e k _ d=>d .ret F l j b h g a (.refl _ _) i
theorem b2.exit{id}(h:aP (.exit id) F l):b2 q D (.exit id) aP F l:=λi b g a k n e j _ d=>by have:=d (.exit id) F l i b h g a (.refl _ _) [] bm;grind
def wn(next:bI->n an->Prop)(aP:fv):fv
 |.normal,a,b=>next a b
 |d,a,b=>aP d a b
theorem b2.seq{k X}(R:b2 q D k (wn (b2 q D X aP) aP) F l):b2 q D (.seq k X) aP F l:=by
 intro U O S d A J e z h g;refine .ctl d a (λ_=>pM) λT b=>?_;refine R T O (S.rely b d) (d.rely b) A (.code X::J) e z h ?_;intro r M N w n K I C y;have B:=b.aY.trans y;cases r with
 |normal=>exact K w n I C A J e z h λr Q j x o u s t i=>g r Q j x o u s t (B.trans i)
 |_=>exact kO.cons (λ_ _=>rfl) E (g _ _ _ _ _ K I C B)
theorem b2.cond{r}{k X}{o}{w}(S:r=.tmp w)(C:look F w=aw (.bool o))(R:o=m->b2 q D k aP F l)(N:o=v->b2 q D X aP F l):b2 q D (.cond r k X) aP F l:=by
 intro U s z g y I j x n B;have u:=z.aK w;rw[C]at u;have A:s.eval r=.bool o:=by subst S;generalize A:s.tmps.getD w K=V at u;simp[bx,ez,cx]at u;cases u;exact A
 refine .ctl g a (λ_=>zk A) λE e=>?_;have M:∀t h b d i,aP t h b->bZ D b d h i->bd b d->dd l E b d->kO q x y I j t i d:=λt h b d i T Q O J=>B t h b d i T Q O (e.aY.trans J);cases o
 .exact N a E s (z.rely e g) (g.rely e) y I j x n M
 exact R a E s (z.rely e g) (g.rely e) y I j x n M
def uU(id:Nat)(aP:fv):fv
 |.exit a,b,d=>if a=id then aP .normal b d else aP (.exit a) b d
 |e,b,d=>aP e b d
theorem b2.block{id}(w:b2 q D r (uU id aP) F l):b2 q D (.block id r) aP F l:=by
 intro A o x e s h g n i lX;refine .ctl e a (λ_=>zj) λy d=>?_;refine w y o (x.rely d e) (e.rely d) s (.inBlock id::h) g n i ?_;intro aj dF ao j fL bc B ae k;have I:=d.aY.trans k;cases aj with
 |normal=>
  exact Pn
 |exit b=>
  simp[uU]at bc;split at bc
  .exact Q5
  .rename_i u
   intro pre vr;have:=lX (.exit b) dF ao j fL bc B ae I (pre++[.inBlock id]) (λgb=>by
    rw[mt,vr];have:(id==b)=v:=N
    simp[exitTo,this])
   grind
 |ret=>exact lX _ _ _ _ _ bc B ae I
 |panic t=>exact lX _ _ _ _ _ bc B ae I
 |goto z=>exact lX _ _ _ _ _ bc B ae I
 |outgrown=>exact lX _ _ _ _ _ bc B ae I
def b2.loop{bq:Type}(o:bq->Prop)(e:bq->bI)(b:bq->n an)(w:bq->Nat)(k)(ae:o k)(Z:iD F (e k))(V:b k=l)(round:∀k,o k->b2 q D r (wn (λx y=>∃X,o X/\w X<w k/\iD x (e X)/\y=b X) aP) (e k) (b k)):b2 q D (.loop r) aP F l:=by
 intro ab ah aa K T W A bq J I;subst V;refine xo (λj d az=>∃X,o X/\bZ D (b X) az (e X) d/\bd (b X) az/\dd (b k) ab (b X) az/\w X=j) ?_ ?_ ⟨k,ae,aa.le Z,K,.refl _ _,a⟩
 .rintro j d az ⟨X,u,s,B,t,C⟩;exact⟨b X,B,λQ h=>⟨X,u,s.rely h B,B.rely h,t.trans h.aY,C⟩⟩
 rintro j d az ⟨X,u,s,B,t,rfl⟩ ad;refine round X u az d s B T (.inLoop r::W) A bq J ?_;intro C ai S M z O N i g;cases C with
 |normal=>
  obtain⟨R,ag,Y,U,rfl⟩:=O;exact ad z M (w R) Y ⟨R,ag,N.le U,i,t.trans g,a⟩
 |_=>exact kO.cons (λ_ _=>rfl) E (I _ _ _ _ _ O N i (t.trans g))
end rules
def bO.cM{ai}(d:bO l b A ai):c A=c ai:=by
 induction A generalizing ai with
 |nil=>cases ai<;>simp_all[bO]
 |cons g A a=>
  cases ai with
  |nil=>simp[bO]at d
  |cons e ai=>simp[a d.2]
def cx.cell{l}{b}{aa}{g}(a:cx l b aa g):dY aa=m:=by
 cases g with
 |c o=>exact Rd.cell a
 |ptr e h=>obtain⟨_,_,_,_,_,rfl⟩:=a;rfl
 |w e j k i=>exact Rd.cell a.1
 |aV e=>obtain⟨_,_,_,_,d⟩:=a;exact d
 |S e n=>obtain⟨_,d,_⟩:=a;exact d.cell
 |any=>exact a
theorem bO.get{ai}(h:bO l b A ai){w}(d:ai[u]?=f w):∃e,A[u]?=f e/\cx l b e w:=by
 induction A generalizing ai u with
 |nil=>cases ai<;>simp_all[bO]
 |cons e A g=>
  cases ai with
  |nil=>grind
  |cons i ai=>
   cases u with
   |zero=>simp at d;subst d;exact⟨e,a,h.1⟩
   |succ u=>simp at d;obtain⟨n,j,k⟩:=g h.2 d;grind
def bO.cell{l}{b}{A}{ai}(e:bO l b A ai):∀h∈A,h.oneCell'=m:=by
 induction A generalizing ai with
 |nil=>simp
 |cons h A d=>
  cases ai with
  |nil=>simp[bO]at e
  |cons i ai=>
   intro g a;rcases fr.1 a with rfl|a
   .have:=cx.cell e.1;cases g<;>simp_all[dY,Value.oneCell']
   exact d e.2 g a
def bO.append{i}{ai a}(e:bO l b A ai)(g:bO l b i a):bO l b (A++i) (ai++a):=by
 induction A generalizing ai with
 |nil=>cases ai<;>simp_all[bO]
 |cons j A d=>
  cases ai with
  |nil=>simp[bO]at e
  |cons h ai=>exact⟨e.1,d e.2⟩
def bO.take{l}{b}{A}{ai}(d:bO l b A ai)(h):bO l b (A.take h) (ai.take h):=by
 induction A generalizing ai h with
 |nil=>cases ai<;>simp_all[bO]
 |cons g A a=>
  cases ai with
  |nil=>simp[bO]at d
  |cons e ai=>cases h with
   |zero=>simp[bO]
   |succ h=>exact⟨d.1,a d.2 h⟩
def bO.drop{l}{b}{A}{ai}(d:bO l b A ai)(h):bO l b (A.drop h) (ai.drop h):=by
 induction A generalizing ai h with
 |nil=>cases ai<;>simp_all[bO]
 |cons g A a=>
  cases ai with
  |nil=>simp[bO]at d
  |cons e ai=>cases h with
   |zero=>exact d
   |succ h=>simpa using a d.2 h
theorem bd.block(a:bd l b){s}(d:b.E i s=f aa):i<b.a.heap.size:=by
 have:=a.mem i s aa d;rcases d6 i b.a.heap.size with a|a
 .exact a
 simp[aM,AS a]at this
def bd.same(g:bd l b)(u:bj.heap=b.a.heap):bd l {b with a:=bj}:=by
 have M:∀j,bj.cell? j=b.a.cell? j:=λj=>by simp[aM,u]
 have S:∀o j,cx l b o j->cx l {b with a:=bj} o j:=λo j n=>by cases j<;>exact n
 have x:∀A d,bO l b A d->bO l {b with a:=bj} A d:=by
  intro A;induction A with
  |nil=>intro d n;cases d<;>simp_all[bO]
  |cons o A z=>intro d n;cases d with
   |nil=>simp[bO]at n
   |cons j d=>exact⟨S _ _ n.1,z _ n.2⟩
 refine⟨λe D o y=>by rw[M];exact g.mem e D o y,g.len,?_,g.a3,λL x e i=>by show e<bj.heap.size;rw[u];exact g.lt L x e i,λe i=>⟨by show e<bj.heap.size;rw[u];exact(g.own e i).1,(g.own e i).2⟩⟩;intro B s L aG r;have:=g.box B s L aG r;cases s with
 |cells C E=>
  obtain⟨e,A,a,h,k,q⟩:=this;exact⟨e,A,a,by grind,x _ _ k,q⟩
 |w C K N w=>
  obtain⟨a,h⟩:=this;refine⟨a,?_⟩;grind
 |J H=>
  obtain⟨t,a,h,k,q⟩:=this;exact⟨t,a,λe D i=>by grind,k,q⟩
 |M=>trivial
 |loop U T n=>
  obtain⟨B,tmps,fn,F,a,h,k,q,J⟩:=this;exact⟨B,tmps,fn,F,a,by grind,k,λR=>bx.mono (b:=b) (ao:=l) (az:={b with a:=bj}) ⟨λ_ _ _ g=>g,λ_ s L g I=>⟨s,L,g,I,.refl _ _⟩⟩ g.len (q R),J⟩
 |bo=>
  obtain⟨n,a,h,k⟩:=this;exact⟨n,a,by grind,k⟩
 |q C K N w=>
  rcases this with a|⟨e,Q,A,O,a,h,k⟩
  .exact .inl a
  exact .inr ⟨e,Q,A,O,a,by grind,k⟩
def cN.same(n:bj.heap=b.a.heap)(e:bj.os=b.a.os)(j:bj.tape=b.a.tape)(k:bj.output=b.a.output):cN l b l {b with a:=bj}:=
 ⟨by grind,λi _ _=>by grind,λ_ _ _ a=>a,λ_ _ _ _=>rfl,λL a i d=>.inr ⟨L,a,d⟩,λ_ g L a h=>⟨g,L,a,h,.refl _ _⟩,e,j,k,rfl⟩
def ey.ck{r}{L}(o:fm l b ao az)(q:c b.t=c l)(i:∀g∈L.al,az.a.heap[g]?=b.a.heap[g]?/\∀j,az.E g j=b.E g j)(n:ey l b r L):ey ao az r L:=by
 cases r with
 |cells y B=>
  obtain⟨g,A,d,e,h,k⟩:=n;subst d;obtain⟨k1,t⟩:=i g E;exact⟨g,A,a,by grind,h.mono o q,λj=>by grind⟩
 |w y F I u=>
  obtain⟨d,e⟩:=n;refine⟨d.mono o.mem,?_⟩;rcases e with⟨e,h⟩|⟨g,cap,A,e,h,k,w⟩
  .exact .inl ⟨e,h.mono o.mem⟩
  grind
 |J H=>
  obtain⟨s,d,e,h,k⟩:=n;refine⟨s,d,λg j Q=>?_,h,λg R j=>by grind⟩;grind
 |M=>trivial
 |loop O N x=>
  obtain⟨z,tmps,fn,C,d,e,h,k,w⟩:=n;subst d;obtain⟨k1,t⟩:=i z E;exact⟨z,tmps,fn,C,a,by grind,h,λM=>(k M).mono o q,λj=>by grind⟩
 |bo=>
  obtain⟨x,d,e,h⟩:=n;subst d;obtain⟨k1,t⟩:=i x E;exact⟨x,a,by grind,λj=>by grind⟩
 |q y F I u=>
  rcases n with d|⟨g,K,A,J,d,e,h,k,w,D,S⟩
  .exact .inl d
  subst d;obtain⟨k1,t⟩:=i g E;exact .inr ⟨g,K,A,J,a,by grind,h,k,w,D.mono o.mem,λj=>by grind⟩
def a5.bZ(a:a5)(b:aq)(A:n Z):a5:=
 {t:=a.t++[⟨.pointer (f ⟨a.a.heap.size,0,p⟩),[a.a.heap.size]⟩],E:=a.E,a:=a.a.alloc (.cells A.toArray b),own:=a.own}
theorem iR(a:au)(s)(b:i<a.heap.size):(a.alloc s).heap[i]?=a.heap[i]?:=by show(a.heap.push s)[i]?=a.heap[i]?;grind
theorem lZ(a:au)(s):(a.alloc s).heap[a.heap.size]?=f s:=by show(a.heap.push s)[a.heap.size]?=f s;simp
def cN.bZ{l}(b)(W)(A)(h):cN l b (l++[h]) (b.bZ W A):=by
 refine⟨by simp[a5.bZ],?_,λ_ _ _ k=>k,λ_ _ _ _=>rfl,?_,?_,a,a,a,a⟩
 .intro i cT _;exact iR _ _ cT
 .intro L e i cT;simp[a5.bZ,gl,gY]at e;grind
 intro g d L j e;have n:g<c b.t:=(cO.1 e).1;have o:g<c l:=(cO.1 j).1;exact⟨d,L,by grind,by simp[a5.bZ];grind,.refl _ _⟩
def bd.bZ{l}{b}(h:bd l b){W}{A}{ai}(B:bO l b A ai):bd (l++[.cells W ai]) (b.bZ W A):=by
 have u:=cN.bZ (l:=l) b W A (.cells W ai);have z:(b.bZ W A).a.heap.size=b.a.heap.size+1:=by simp[a5.bZ]
 refine⟨?_,by simp[a5.bZ,h.len],?_,?_,?_,?_⟩
 .intro i s aa j;have g:=h.block j;have:=h.mem i s aa j;rw[<-this];simp[aM,a5.bZ];grind[iR]
 .intro d y L aG e;rcases Nat.lt_trichotomy d (c l) with x|rfl|C
  .rw[kH x]at aG;simp[a5.bZ]at e;rw[kH (by rw[h.len];exact x)]at e;refine(h.box d y L aG e).ck u.ext h.len λi g=>⟨?_,λ_=>rfl⟩
   have:=h.lt L (ca e) i g;exact iR _ _ this
  .simp at aG;subst aG;simp[a5.bZ]at e;rw[hr (by rw[h.len];grind)]at e;simp[h.len]at e;subst e;refine⟨b.a.heap.size,A,a,lZ _ _,B.mono u.ext h.len,λs=>?_⟩;cases j:b.E b.a.heap.size s with
   |none=>exact j
   |some aa=>have:=h.block j;omega
  grind
 .intro d t L o e k i g n;simp[a5.bZ]at e k;have w:∀d L,(b.t++[⟨.pointer (f ⟨b.a.heap.size,0,p⟩),[b.a.heap.size]⟩])[d]?=f L->(b.t[d]?=f L)∨(d=c b.t/\L.al=[b.a.heap.size]):=N;rcases w d L e with q|⟨rfl,q⟩<;>rcases w t o k with r|⟨rfl,r⟩
  .exact h.a3 d t L o q r i g n
  .have:=h.lt L (ca q) i g;grind
  .have:=h.lt o (ca r) i n;grind
  rfl
 .intro L e i g;rw[z];simp[a5.bZ,gl,gY]at e;rcases e with e|rfl
  .have:=h.lt L e i g;omega
  grind
 intro i g;obtain⟨E,D⟩:=h.own i g;refine⟨by grind,λL e=>?_⟩;simp[a5.bZ,gl,gY]at e;grind
def bd.cX(d:bd l b){ce}(o:b.a.heap.size<=bj.heap.size)(h:∀i,i<b.a.heap.size->bj.heap[i]?=b.a.heap[i]?)(q:∀i,i<b.a.heap.size->∀s,ce i s=b.E i s)(y:∀i,b.a.heap.size<=i->∀s aa,ce i s=f aa->bj.cell? ⟨i,s,p⟩=f aa)(r:bj.os=b.a.os)(w:bj.tape=b.a.tape)(t:bj.output=b.a.output):bd l ⟨b.t,ce,bj,b.own⟩/\cN l b l ⟨b.t,ce,bj,b.own⟩:=by
 have k:cN l b l ⟨b.t,ce,bj,b.own⟩:=
  ⟨o,λi a _=>h i a,λi s aa e=>by rw[<-e];exact q i (d.block e) s,λi a _ s=>q i a s,λL d i a=>.inr ⟨L,d,a⟩,λ_ n L d u=>⟨n,L,d,u,.refl _ _⟩,r,w,t,rfl⟩
 refine⟨⟨?_,d.len,?_,d.a3,λL g i a=>eE (d.lt L g i a) o,λi a=>⟨eE (d.own i a).1 o,(d.own i a).2⟩⟩,k⟩
 .intro i s aa e;rcases d6 i b.a.heap.size with a|a
  .have j:b.E i s=f aa:=N;rw[<-d.mem i s aa j];simp[aM];grind
  grind
 intro x n L aG g;exact(d.box x n L aG g).ck k.ext d.len λi a=>⟨h i (d.lt L (ca g) i a),λs=>q i (d.lt L (ca g) i a) s⟩
def bd.write(j:bd l b){L}{ai h}{q}(aG:l[d]?=f (.cells W ai))(o:b.t[d]?=f L)(x:L.al=[i])(B:bO l b q h):bd (l.set d (.cells W h)) {b with a:=b.a.setRow i q.toArray}/\cN l b (l.set d (.cells W h)) {b with a:=b.a.setRow i q.toArray}:=by
 have w:d<c l:=(cO.1 aG).1;obtain⟨r,A,t,u,D,z⟩:=j.box d _ L aG o;subst t;simp at x;subst x;have n:cN l b (l.set d (.cells W h)) {b with a:=b.a.setRow r q.toArray}:=by
  refine⟨by simp,?_,λ_ _ _ j=>j,λ_ _ _ _=>rfl,λL j i g=>.inr ⟨L,j,g⟩,?_,a,a,a,a⟩
  .intro i g jn;exact setRow_other _ _ _ _ (λaj=>jn _ (ca o) Ah)
  intro k bY cp e lW;by_cases aj:d=k
  .subst aj;rw[aG]at e;cases e;exact⟨_,cp,by rw[io w],lW,by simp[fJ]⟩
  exact Fu
 refine⟨⟨?_,by simp[j.len],?_,j.a3,λL o i g=>by simpa using j.lt L o i g,λi g=>by simpa using j.own i g⟩,n⟩
 .intro i s aa pv;have C:i≠r:=λaj=>by grind
  rw[<-j.mem i s aa pv];exact Qo
 intro k bY cp e lW;by_cases aj:d=k
 .subst aj;rw[io w]at e;cases e;rw[o]at lW;cases lW;exact⟨r,q,a,setRow_heap _ _ _ _ _ _ u,B.mono n.ext j.len,z⟩
 rw[j_ aj]at e;refine(j.box k bY cp e lW).ck n.ext j.len λi g=>⟨setRow_other _ _ _ _ λy=>?_,λ_=>rfl⟩
 subst y;exact aj (j.a3 d k _ cp o lW i E g)
def AE(b:n an)(d:a5):Next->y->Prop
 |.value e,a=>bx b d e a
 |.skip,a=>a=.any
 |_,_=>False
def a0(P:aI)(j:ap)(h:aA->y)(g:n an)(l:y)(b:n an):Prop:=
 ∀e d,bd g e->(∀k,bx g e (d k) (h k))->∃i a,(ac d j).run P e.a=.ok i a.a/\AE b a i l/\bd b a/\cN g e b a/\du e ((ac d j).events P e.a #[])
def a0.dw{k}(i:∀b a,bd l b->(∀g,bx l b (a g) (η g))->∃aa,(ac a s).run P b.a=.ok (.value aa) b.a/\bx l b aa k/\du b ((ac a s).events P b.a #[])):a0 P s η l k l:=
 λb a d e=>let ⟨aa,cS,dq,h⟩:=i b a d e;⟨.value aa,b,cS,dq,d,.refl _ _,h⟩
def a0.aW{k}(i:∀b a,bd l b->(∀g,bx l b (a g) (η g))->∃aa,(ac a s).run P b.a=.ok (.value aa) b.a/\bx l b aa k/\(ac a s).events P b.a #[]=#[]):a0 P s η l k l:=
 λb a d e=>let ⟨aa,cS,dq,h⟩:=i b a d e;⟨.value aa,b,cS,dq,d,.refl _ _,by rw[h];exact .nil⟩
def yG:IntKind->Int->Bool
 |.i64,.ofNat a=>ay a 9223372036854775807
 |.i64,.negSucc a=>ay a 9223372036854775807
 |.u8,.ofNat a=>ay a 255
 |.i32,.ofNat a=>ay a 2147483647
 |.i32,.negSucc a=>ay a 2147483647
 |.u64,.ofNat a=>ay a 18446744073709551615
 |.u32,.ofNat a=>ay a 4294967295
 |_,_=>v
def aaG{h}{j}(a:yG h j=m):a7 h j:=by cases h<;>cases j<;>simp only[yG,a7]at a⊢<;>first|(cases a;done)|(have:=fe a;grind)
def lL:Z->Option O
 |.int a b=>cond (yG a b) (f (.int a b)) p
 |.bool e=>f (.bool e)
 |.string d=>cond (ay d.size 9223372036854775807) (f (.T d.data.toList)) p
 |.slice p 0 0=>f (.C m 0 0 (λ_=>[]))
 |.pointer p=>f .bb
 |.nilIface=>f .br
 |.nilFunc=>f .dd
 |.map g=>f (.val (.map g))
 |_=>p
theorem Rd.dL{o}{h}{a}:Rd bD (.slice a 0 0) (.C o h 0 V):=
 Rd.C 0 0 (λ_ _=>K) (bE _) x bm x x x x
def Rd.ft{bD}{aa}{r}(a:lL aa=f r):Rd bD aa r:=by
 unfold AM.lL at a;split at a<;>first
  |(rename_i d e;cases b:yG d e<;>rw[b]at a<;>cases a;exact .int (aaG b))
  |(rename_i g;cases b:ay g.size 9223372036854775807<;>rw[b]at a<;>cases a;exact .T rfl (by rw[nd];exact fe b))
  |(cases a;done)
  |(cases a;exact .bool)
  |(cases a;exact Rd.dL)
  |(cases a;exact .bb)
  |(cases a;exact .br)
  |(cases a;exact .dd)
  |(cases a;exact .val rfl)
def Tr:Option O->y
 |some a=>aw a
 |none=>.any
def bF(a:bI):aA->y
 |.tmp d=>look a d
 |.const e=>Tr (lL e)
 |.func b=>aw (.fn (.func b) [] [])
 |.global _=>.any
theorem eO{d}(e:bZ D l b F d)(X):bx l b (d.eval X) (bF F X):=by
 cases X with
 |tmp i=>exact e.aK i
 |const j=>
  simp[bF,Act.eval];cases h:lL j with
  |none=>trivial
  |some k=>exact Rd.ft h
 |func g=>
  exact Rd.fn [] [] a a (λ_=>K) (λ_=>K) E E E E
 |global g=>trivial
def fW:Option Nat->y->bI->bI
 |some b,d,a=>(b,d)::a
 |none,_,a=>a
def rB{n:ag P}{j:aL}{h}{i}{bs}(z:j.kind≠.early)(t:aH[e]?=f s)(x:aU s (yielded aH i.tmps)=m)(r:∀g,cU b g->∃k d l,(ac i.eval s).run P g.a=.ok k d.a/\(k=.value l∨(k=.skip/\l=K))/\kG g d ((ac i.eval s).events P g.a #[])/\cc n bq (G (j.N (i.put s.dst l) (.inRegion aH bs::h)) ai) d):
  cc n bq (G (j.N i (.inRegion aH (e::bs)::h)) ai) b:=by refine .next a λg u=>?_;obtain⟨k,d,l,y,w,o,q⟩:=r g (n.bO u);refine⟨_,d,Go.Conc.listed P j.fn i s g.a,?_,⟨o.1,o.2.seen⟩,q⟩;grind[ac1,Ms]
theorem a0.move(b:s.op=.move k):a0 P s η l (η k) l:=
 .aW λe a _ d=>⟨a k,by simp[ac,b,pure],d k,by simp[ac,b]⟩
theorem a0.assign(b:s.op=.assign k):a0 P s η l (η k) l:=
 .aW λe a _ d=>⟨a k,by simp[ac,b,pure],d k,by simp[ac,b]⟩
def b8{r}(a:bx l b aa (aw r)):Rd b.E aa r:=a
def a0.pick{r e i}(h:s.op=.pick r e i){o}(k:η r=aw (.bool o)):
  a0 P s η l (match o with|true=>η e|false=>η i) l:=by
 refine .aW λn a _ j=>?_;have b:=j r;rw[k]at b;have d:=b8 b;generalize g:a r=q at d;cases d;cases o
 .exact⟨a i,by simp[ac,h,g,asBool],j i,by simp[ac,h,g,asBool]⟩
 exact⟨a e,by simp[ac,h,g,asBool],j e,by simp[ac,h,g,asBool]⟩
def vu(e:BinOp)(d:IntKind)(a b:Int):Option (O×n Prop):=
 match e with
 |.add=>f (.int d (a+b),[a7 d (a+b)])
 |.sub=>f (.int d (a-b),[a7 d (a-b)])
 |.mul=>f (.int d (a*b),[a7 d (a*b)])
 |.quo=>f (.int d (a / b),[0<=a,0<b])
 |.rem=>f (.int d (a % b),[0<=a,0<b])
 |.eql=>f (.bool (a==b),[])
 |.neq=>f (.bool (a != b),[])
 |.lss=>f (.bool (decide (a<b)),[])
 |.leq=>f (.bool (decide (a<=b)),[])
 |.gtr=>f (.bool (decide (b<a)),[])
 |.geq=>f (.bool (decide (b<=a)),[])
 |_=>p
def wd(d:BinOp)(a b:n UInt8):Option (O×n Prop):=
 match d with
 |.add=>f (.T (a++b),[c a+c b<=9223372036854775807])
 |.eql=>f (.bool (a==b),[])
 |.neq=>f (.bool (!(a==b)),[])
 |.lss=>f (.bool (aW a b),[])
 |.leq=>f (.bool (aW a b||a==b),[])
 |.gtr=>f (.bool (!(aW a b||a==b)),[])
 |.geq=>f (.bool (!(aW a b)),[])
 |_=>p
@[simp] def U:n Prop->Prop
 |[]=>True
 |[a]=>a
 |a::b::d=>a/\U (b::d)
def U.cons{b:Prop}{a}:U (b::a)↔b/\U a:=by cases a<;>simp
theorem sg{h}{j}(a:a7 h j):h.wrap j=j:=by cases h<;>simp only[a7,IntKind.wrap,IntKind.bits,IntKind.signed]at a⊢<;>simp<;>(try split)<;>omega
def acH{J}{h}{k X}{r}(b:vu op h k X=f (r,cg))(a:U cg)(s:a7 h k)(n:a7 h X)(o)(bD):
  ∃j,(binOp op o (.int h k) (.int h X)).run P J=.ok j J/\Rd bD j r:=by
 cases op<;>simp[vu,eW,lK,reduceCtorEq]at b
 case add=>obtain⟨rfl,rfl⟩:=b;exact⟨_,by simp only[binOp,d',hs,dh,Op.intArith,sg a];rfl,.int a⟩
 case sub=>obtain⟨rfl,rfl⟩:=b;exact⟨_,by simp only[binOp,d',hs,dh,Op.intArith,sg a];rfl,.int a⟩
 case mul=>obtain⟨rfl,rfl⟩:=b;exact⟨_,by simp only[binOp,d',hs,dh,Op.intArith,sg a];rfl,.int a⟩
 case quo=>
  obtain⟨rfl,rfl⟩:=b;obtain⟨e,d⟩:=a;replace d:0<X:=d;have i:k.tdiv X=k / X:=Int.tdiv_eq_ediv_of_nonneg e;have g:a7 h (k / X):=by have l:0<=k / X:=Int.ediv_nonneg e x;have q:k / X<=k:=Int.ediv_le_self _ e;cases h<;>simp only[a7]at s⊢<;>omega
  exact⟨_,by simp only[binOp,d',hs,dh,Op.intDiv,show X≠0 by omega,i,sg g];rfl,.int g⟩
 case rem=>
  obtain⟨rfl,rfl⟩:=b;obtain⟨e,d⟩:=a;replace d:0<X:=d;have i:k.tmod X=k % X:=Int.tmod_eq_emod_of_nonneg e;have g:a7 h (k % X):=by have l:0<=k % X:=sI _ x;have q:k % X<X:=sB _ d;cases h<;>simp only[a7]at n⊢<;>omega
  exact⟨_,by simp only[binOp,d',hs,dh,Op.intDiv,show X≠0 by omega,i];rfl,.int g⟩
 all_goals (obtain⟨rfl,rfl⟩:=b;exact⟨_,by simp only[binOp,d',hs,dh,Op.intCmp,gt_iff_lt,ge_iff_le];rfl,.bool⟩)
def acI{J}{k X}{b i}{r}(a:wd op b i=f (r,cg))(ck:U cg)(j:k.data.toList=b)(g:X.data.toList=i)(o)(bD):
  ∃d,(binOp op o (.string k) (.string X)).run P J=.ok d J/\Rd bD d r:=by
 subst j g;cases op<;>simp only[wd,eW,lK,reduceCtorEq]at a
 case add=>
  obtain⟨rfl,rfl⟩:=a;have e:¬((k.size+X.size:Nat):Int)>IntKind.i64.max:=Oj;refine⟨_,by simp only[binOp,Op.stringOp,e,dh];rfl,.T E (by simpa using ck)⟩
 all_goals (obtain⟨rfl,rfl⟩:=a;exact⟨_,by simp only[binOp,Op.stringOp,ByteArray.toList_eq];rfl,.bool⟩)
def VK{a}{h}{k X}{r}(t:vu op h k X=f (r,cg))(ck:U cg)(o):
  (binOp op o (.int h k) (.int h X)).events P a #[]=#[]:=by
 cases op<;>simp[vu,eW,lK,reduceCtorEq]at t
 case quo=>
  exact Qe
 case rem=>
  exact Qe
 all_goals (simp only[binOp,d',hs,dh,Op.intCmp,Op.intArith];rfl)
def XZ{j}{k X}{a i}{r}(b:wd op a i=f (r,cg))(ck:U cg)(g:k.data.toList=a)(e:X.data.toList=i)(o):
  (binOp op o (.string k) (.string X)).events P j #[]=#[]:=by
 subst g e;cases op<;>simp[wd,eW,lK,reduceCtorEq]at b
 case add=>
  obtain⟨rfl,rfl⟩:=b;have d:¬((k.size+X.size:Nat):Int)>IntKind.i64.max:=Oj;simp only[binOp,Op.stringOp,d,dh];rfl
 all_goals (simp only[binOp,Op.stringOp];rfl)
def ti:IntKind->IntKind->Bool
 |.i8,.i8|.i16,.i16|.i32,.i32|.i64,.i64|.u8,.u8|.u16,.u16|.u32,.u32|.u64,.u64=>m
 |_,_=>v
def Do{h a}(b:ti h a=m):h=a:=by cases h<;>cases a<;>first|rfl|(cases b;done)
def xu(a:BinOp):O->O->Option (O×n Prop)
 |.int d h,.int b i=>cond (ti d b) (vu a d h i) p
 |.T e,.T g=>wd a e g
 |_,_=>p
def qs(op)(o)(k X)(h a)(j d)(b):(eqGuard op o k X (.int h j) (.int a d)).run P b=.ok () b:=Aj
def II(op)(o)(k X)(b i)(a):(eqGuard op o k X (.string b) (.string i)).run P a=.ok () a:=Aj
def yc(op)(o)(k X)(h a)(j b)(d)(V):(eqGuard op o k X (.int h j) (.int a b)).events P d V=V:=Aj
def UV(op)(o)(k X)(a i)(b)(V):(eqGuard op o k X (.string a) (.string i)).events P b V=V:=Aj
theorem a0.binOp(w:s.op=.binOp op o k X ty){C i r}(M:η k=aw C)(y:η X=aw i)(e:xu op C i=f (r,cg))(d:U cg):a0 P s η l (aw r) l:=by
 refine .aW λx q _ E=>?_;have a:=E k;have b:=E X;rw[M]at a;rw[y]at b;replace a:=b8 a;replace b:=b8 b;generalize t:q k=N at a;generalize u:q X=O at b;cases a<;>cases b<;>simp[xu,reduceCtorEq]at e
 case int.int h j jn gb DK Ze=>
  cases g:ti h gb<;>simp[g,cond,reduceCtorEq]at e
  cases Do g;obtain⟨B,z,A⟩:=acH (P:=P) (J:=x.a) e d jn Ze o x.E;exact⟨B,by simp[ac,w,cI,t,u,qs,c7,z,d_],A,by simp[ac,w,t,u,qs,yc,VK e d]⟩
 case T.T=>
  rename_i S R F I Q K n D;obtain⟨B,z,A⟩:=acI (P:=P) (J:=x.a) e d F n o x.E;exact⟨B,by simp[ac,w,cI,t,u,II,c7,z,d_],A,by simp[ac,w,t,u,II,UV,XZ e d F n]⟩
def zL(a:UnOp):O->Option O
 |.bool b=>match a with|.not=>f (.bool (!b))|_=>p
 |_=>p
theorem a0.unOp{op}(h:s.op=.unOp op o k){e r}(i:η k=aw e)(b:zL op e=f r):a0 P s η l (aw r) l:=by
 refine .aW λq d _ j=>?_;have a:=j k;rw[i]at a;replace a:=b8 a;generalize g:d k=n at a;cases a<;>simp[zL,reduceCtorEq]at b
 cases op<;>simp[reduceCtorEq,eW]at b
 subst b;exact⟨_,by simp[ac,h,g,Op.unary,cI,d_,c7],Rd.bool,by simp[ac,h,g,Op.unary]⟩
theorem eV.get{ah}(h:eV l b A ah){k}(d:ah[u]?=f k):∃e,A[u]?=f e/\ez l b e k:=by
 induction A generalizing ah u with
 |nil=>cases ah<;>simp_all[eV]
 |cons e A g=>
  cases ah with
  |nil=>grind
  |cons j i=>
   cases u with
   |zero=>simp at d;subst d;exact⟨e,a,h.1⟩
   |succ u=>simp at d;obtain⟨o,w,n⟩:=g h.2 d;grind
theorem a0.extract{P}{s}{b:aA->y}{l}{k}{u}(o:s.op=.extract k u){ah}{d}(i:b k=.ae ah)(h:ah[u]?=f d):a0 P s b l (.p d) l:=by refine .aW λw t _ n=>?_;have a:=n k;rw[i]at a;obtain⟨A,j,q⟩:=a;obtain⟨r,e,g⟩:=q.get h;refine⟨r,?_,g,?_⟩<;>simp[ac,o,j,Instr.extract,e]
def pH(a b:Nat):aT:=⟨.cell ⟨a,b,p⟩,v,v⟩
def t1(a b:Nat):aT:=⟨.cell ⟨a,b,p⟩,m,v⟩
theorem gQ(i s j):(⟨i,s,p⟩:Addr).add j=⟨i,s+j,p⟩:=by unfold Addr.add;split<;>simp_all
section
def CC{a}{s}(b:a.cell? ⟨i,s,p⟩=f aa)(V):(load ⟨i,s,p⟩).events P a V=V.push (pH i s):=by rw[events_load,b];rfl
def Ja{n}{i s}:∀h e a b,(∀d,d<h->∃l,n.cell? ⟨i,s+(e+d),p⟩=f l) ->
    ∀g∈(loadCellsFrom ⟨i,s,p⟩ e h a).events P n b,g∈b∨∃d,d<e+h/\g=pH i (s+d)
  |0,e,a,b,_=>λg j=>.inl (by simpa[loadCellsFrom]using j)
  |h+1,e,a,b,o=>λg j=>by
    obtain⟨l,k⟩:=o 0 x;simp[kf]at k;simp[loadCellsFrom,aF,gQ,run_load,k,aK,CC k]at j;rcases Ja h (e+1) (a.push l) _ (λd q=>by grind) g j with r|⟨d,q,rfl⟩
    · grind
    grind
def I'{d}{s}{V}(h:∀a,a<j->∃g,d.cell? ⟨i,s+a,p⟩=f g):∀b∈(loadCells ⟨i,s,p⟩ j).events P d V,b∈V∨∃a,a<j/\b=pH i (s+a):=by intro b e;have:=Ja (P:=P) j 0 #[] V N b e;grind
def nn{i s}{o}:∀A a g d b,d.heap[i]?=f (.cells g o (0,0))->s+a+c A<=g.size->(∀e∈A,e.oneCell'=m) ->
    ∀j∈(storeCells ⟨i,s,p⟩ A a).events P d b,j∈b∨∃l,a<=l/\l<a+c A/\j=t1 i (s+l)
  |[],_,_,_,_,_,_,_=>λj k=>.inl (by simpa[storeCells]using k)
  |e::h,a,g,d,b,B,x,n=>λj k=>by
    have bp:s+a<g.size:=N;have q:d.cell? ⟨i,s+a,p⟩=f g[s+a]:=Ob;have r:d.frozen? ⟨i,s+a,p⟩=v:=by simp[World.frozen?,B]
    have t:(store (⟨i,s+a,p⟩:Addr) e).run P d=.ok () (d.setRow i (g.setIfInBounds (s+a) e)):=N3;have u:(store (⟨i,s+a,p⟩:Addr) e).events P d b=b.push (t1 i (s+a)):=by rw[events_store P d b _ e _ (n e E),q];simp[r,ka,dh];rfl
    simp[storeCells,aF,gQ,t,u,aK]at k;rcases nn h (a+1) (g.setIfInBounds (s+a) e) _ _ (setRow_heap _ _ _ _ _ _ B) N (λw C=>n w N) j k with y|⟨l,D,z,rfl⟩
    · grind
    grind
def dC(P:aI)(b:Sem α):Prop:=∀d a,b.events P d a=a
def dC.bind{e:Type}{z}{g:α->Sem e}(i:dC P z)(j:∀d,dC P (g d)):dC P (z >>= g):=by
  intro h a;rw[aF,i h a];cases z.run P h with
  |ok d b=>exact j d b a
  |halt k b=>rfl
def dC.pure{a:Type}{b}:dC P (Pure.pure b:Sem a):=λ_ _=>rfl
def dC.stuck{a:Type}{b}:dC P (Go.stuck b:Sem a):=λ_ _=>rfl
def dC.unsupported{a:Type}{b}:dC P (Go.unsupported b:Sem a):=λ_ _=>rfl
def dC.sizeOf{o}:dC P (sizeOf o):=λ_ _=>events_sizeOf ..
def dC.underlying{o}:dC P (underlying o):=λ_ _=>events_underlying ..
def dC.zeroValue{o}:dC P (zeroValue o):=λ_ _=>events_zeroValue ..
def dC.newObj{s}:dC P (newObj s):=λ_ _=>rfl
def dC.newRow{o}{r}:dC P (newRow o r):=.bind .newObj λ_=>.pure
def dC.hx{a e:Type}{g:a->Sem e}(h:∀b,dC P (g b)):∀d:n a,dC P (d.mapM g)
  |[]=>by rw[List.mapM_nil];exact .pure
  |b::d=>by rw[pc];exact .bind (h b) λ_=>.bind (dC.hx h d) λ_=>.pure
def dC.map{b d:Type}{e:b->d}{z}(g:dC P z):dC P (Functor.map e z):=λh a=>by rw[Sem.events_map];exact g h a
def dC.jy{a:Type}{b:α->Sem a}(e:∀d,dC P (b d))(g:Array α):dC P (g.mapM b):=by rw[xh];exact .map (.hx e _)
def dC.hd{b d:Type}{h:b->d->Sem (ForInStep d)}(i:∀e a,dC P (h e a)):∀(g:n b) a,dC P (forIn g a h)
  |[],a=>by rw[List.forIn_nil];exact .pure
  |e::g,a=>by
    rw[List.forIn_cons];refine .bind (i e a) λj=>?_;cases j with
    |done a=>exact .pure
    |yield a=>exact dC.hd i g a
theorem dC.build{o}{parts}:dC P (Instr.build o parts):=by
  unfold Instr.build;refine .bind .zeroValue λe=>.bind .underlying λa=>?_;cases a<;>first
    |exact .stuck
    | (refine .bind (.jy (λ_=>.bind .sizeOf λ_=>.pure) _) λb=>?_
       split
       · exact .pure
       · exact .stuck)
    | (refine .bind .sizeOf λd=>?_
       split
       · exact .pure
       · exact .stuck)
theorem dC.buildSlice{o}{j}{parts}:dC P (Instr.buildSlice o j parts):=by
  unfold Instr.buildSlice;refine .bind .underlying λh=>?_;cases h<;>first
    |exact .stuck
    | (refine .bind .sizeOf λd=>?_
       dsimp only
       have a:∀elem (zero:Array Z),dC P (match Instr.fill (λi=>f (i*d,d)) (Array.map (λk=>zero[k % zero.size]!) (Array.range (j*d))) parts.toList with
          |some cells=>do
            let g<-Go.newRow elem cells
            Pure.pure (Value.slice (f g) j j)
          |_=>Go.stuck "buildSlice: a part of the wrong size"):=by
         intro elem zero;split
         · exact .bind .newRow λ_=>.pure
         · exact .stuck
       by_cases e:j*d=0
       · simp only[e,dH]
         rw[e]at a;split
         · grind
         · exact .bind .pure λb=>a _ b
       · simp only[e,dh]
         split
         · exact .bind .unsupported λ_=>.bind .zeroValue λb=>.bind .pure λb=>a _ b
         · exact .bind .zeroValue λb=>.bind .pure λb=>a _ b)
def qt{s}{L}(a:L∈b.t)(d:i∈L.al):h5 b (pH i s):=⟨rfl,rfl,.inr (.inl ⟨⟨L,a,d⟩,λe=>by cases e⟩)⟩
def IK{s}(a:b.E i s=f aa):h5 b (pH i s):=⟨rfl,rfl,.inr (.inr ⟨rfl,aa,a⟩)⟩
theorem ow{s}{L}(d:L∈b.t)(e:i∈L.al)(a:b.E i s=p):h5 b (t1 i s):=⟨rfl,rfl,.inr (.inl ⟨⟨L,d,e⟩,λ_=>a⟩)⟩
end
structure bv where
 size:Nat
 bytes:Nat
 agg:Bool
 desc:TypeDesc
 zero:n O
 eq:n TypeDesc:=[]
def rL:TypeDesc->Z->Z->Option Bool
 |.int _,.int e a,.int d b=>if e=d then f (a==b)else p
 |.string,.string a,.string b=>f (a.toList==b.toList)
 |.bool,.bool a,.bool b=>f (a==b)
 |_,_,_=>p
def ov:n TypeDesc->n Z->n Z->Option Bool
 |[],[],[]=>f m
 |g::a,h::A,i::b=>match rL g h i with
  |some d=>match ov a A b with
   |some e=>f (d&&e)
   |none=>p
  |none=>p
 |_,_,_=>p
def yI:TypeDesc->Bool
 |.struct _|.array _ _=>m
 |_=>v
structure dR(P:aI)(o:aq)(e:bv):Prop where
 eN:P.underlying o=f e.desc
 agg:yI e.desc=e.agg
 dc:∃inf cL,P.info? o=f inf/\inf.size=e.size/\inf.bytes=e.bytes/\inf.zero=f cL/\cL.cells.toList.map lL=e.zero.map f/\(∃ai,cL=if e.agg then .agg ai else cL)/\c e.zero=e.size
 iM:e.eq≠[]->P.eqGuardType P.depth o=v/\∀(J:au) (A ws:n Z) (i:Bool),ov e.eq A ws=f i->(Op.equal o (.agg A.toArray) (.agg ws.toArray)).run P J=.ok i J/\∀V,(Op.equal o (.agg A.toArray) (.agg ws.toArray)).events P J V=V
def b1:n (Nat×bv)->Nat->Option bv
 |[],_=>p
 |(d,b)::e,a=>cond (af d a) (f b) (b1 e a)
def bn(P:aI)(d:n (Nat×bv)):Prop:=∀b a,b1 d b=f a->dR P b a
section
variable {J:au}{e:bv}
def dR.run_underlying(a:dR P o e):(underlying o).run P J=.ok e.desc J:=by simp[underlying,a.eN]
def dR.ew(a:dR P o e):(isAgg o).run P J=.ok e.agg J:=by have:=a.agg;unfold Go.isAgg;rw[cI,a.run_underlying];cases b:e.desc<;>rw[b]at this<;>simp[yI]at this<;>simp[this]
def dR.bk(d:dR P o e):(sizeOf o).run P J=.ok e.size J:=by obtain⟨g,h,a,b,_⟩:=d.dc;simp[sizeOf,typeInfo,a,b]
def ux{l}{b}:∀{A:n Z}{a:n O},A.map lL=a.map f->bO l b A (a.map Q.c)
 |[],[],_=>trivial
 |[],_::_,d=>by grind
 |_::_,[],d=>by grind
 |g::A,e::a,d=>by simp[mr,List.cons.injEq]at d;exact⟨Rd.ft d.1,ux d.2⟩
def dR.hX(i:dR P o e)(l)(b):∃a,(zeroValue o).run P J=.ok a J/\bO l b a.cells.toList (e.zero.map Q.c):=by obtain⟨k,a,d,j,n,h,g,_⟩:=i.dc;exact⟨a,by simp[zeroValue,typeInfo,d,h],ux g⟩
end
def mx:y->Option (n Q)
 |.p (.R b)=>f [b]
 |.p (.agg a)=>f a
 |_=>p
theorem u3{d}{ai}(a:mx d=f ai)(e:bx l b aa d):bO l b aa.cells.toList ai:=by
 cases d with
 |p h=>
  cases h with
  |R j=>
   cases a;have:=cx.cell e;cases aa<;>first|exact⟨e,C⟩|cases this
  |agg k=>
   cases a;obtain⟨A,rfl,g⟩:=e;simpa[Value.cells]using g
 |ae i=>cases a
 |any=>cases a
def a0.newVar{P}{s}{g:aA->y}{l}{W}{ai}(q:∀b d,bd l b->(∀n,bx l b (d n) (g n))->∃h:Z,(ac d s).run P b.a=((do pure (.value (.pointer (f (<-newVar W h))))):Sem Next).run P b.a/\bO l b h.cells.toList ai/\(ac d s).events P b.a #[]=#[]):
  a0 P s g l (aD (c l) 0) (l++[.cells W ai]):=by
 intro b d e k;obtain⟨h,i,j,o⟩:=q b d e k;refine⟨.value (.pointer (f ⟨b.a.heap.size,0,p⟩)),b.bZ W h.cells.toList,?_,?_,e.bZ j,.bZ b W _ _,by rw[o];exact .nil⟩
 .rw[i];simp[Go.newVar,newRow,a5.bZ]
 refine⟨by simp,⟨.pointer (f ⟨b.a.heap.size,0,p⟩),[b.a.heap.size]⟩,b.a.heap.size,?_,a,a⟩;simp[a5.bZ,<-e.len]
theorem a0.alloc{P}{ad}(aV:bn P ad){s}{b:aA->y}{l}{W}(g:s.op=.alloc W){e}(a:b1 ad W=f e):
  a0 P s b l (aD (c l) 0) (l++[.cells W (e.zero.map Q.c)]):=by refine .newVar λh k _ _=>?_;obtain⟨j,d,i⟩:=(aV W e a).hX (J:=h.a) l h;exact⟨j,by simp[ac,g,Instr.alloc,d],i,by simp[ac,g,Instr.alloc,d,Go.newVar,newRow]⟩
theorem a0.box{P}{s}{a:aA->y}{l}{W}{k}(d:s.op=.box W k){ai}(e:mx (a k)=f ai):
  a0 P s a l (aD (c l) 0) (l++[.cells W ai]):=
 .newVar λh b _ g=>⟨b k,by simp[ac,d,Instr.box],u3 e (g k),by simp[ac,d,Instr.box,Go.newVar,newRow]⟩
def mZ{a:Type}:Nat->n a->Option (n a)
 |0,_=>f []
 |d+1,g::b=>match mZ d b with|some e=>f (g::e)|none=>p
 |_+1,[]=>p
def tW{h:Type}:∀{b:Nat}{e d:n h},mZ b e=f d->d=e.take b/\c d=b
 |0,e,d,a=>by cases a;simp
 |b+1,[],d,a=>by simp[mZ]at a
 |b+1,o::g,d,a=>by
  simp[mZ]at a;cases i:mZ b g with
  |none=>grind
  |some l=>
   simp[i]at a;subst a;obtain⟨j,k⟩:=tW i;grind
def c9{a:Type}:Nat->n a->Option a
 |_,[]=>p
 |0,e::_=>f e
 |d+1,_::b=>c9 d b
theorem er{b:Type}:∀{j:Nat}{d:n b}{e:b},c9 j d=f e->d[j]?=f e
 |_,[],_,a=>by simp[c9]at a
 |0,e::_,_,a=>by simpa[c9]using a
 |j+1,_::g,_,a=>by simpa using er (j:=j) (d:=g) a
def fU{a:Type}:Nat->n a->n a
 |0,d=>d
 |_+1,[]=>[]
 |e+1,_::b=>fU e b
def rK{d:Type}:∀a(e:n d),fU a e=e.drop a
 |0,_=>by simp[fU]
 |_+1,[]=>by simp[fU]
 |a+1,_::b=>by simp[fU,rK a b]
def hf(b:bv)(a:n Q):Option E1:=
 match b.agg with
 |true=>match mZ b.size a with|some e=>f (.agg e)|none=>p
 |false=>match c9 0 a with|some d=>f (.R d)|none=>p
def tJ{e}(r:dR P o e){ai}{aj}(D:∀k d,A[k]?=f d->b.a.cell? ⟨i,off+k,p⟩=f d)(q:bO l b A ai)(h:hf e ai=f aj):
  ∃d,(loadVar o ⟨i,off,p⟩).run P b.a=.ok d b.a/\ez l b d aj:=by
 simp[loadVar,cI,r.ew,c7];cases t:e.agg<;>simp[hf,t]at h
 .cases g:c9 0 ai with
  |none=>grind
  |some y=>
   simp[g]at h;subst h;obtain⟨d,z,s⟩:=q.get (er g);refine⟨d,?_,s⟩;grind[run_load]
 cases g:mZ e.size ai with
 |none=>grind
 |some B=>
  simp[g]at h;subst h;obtain⟨x,u⟩:=tW g;have j:=q.take e.size;rw[<-x]at j;have w:c (A.take e.size)=e.size:=by rw[j.cM,u]
  have n:=run_loadCells_list (P:=P) b.a ⟨i,off,p⟩ (A.take e.size) (λk d C=>by grind[gQ]);rw[w]at n;refine⟨.agg (A.take e.size).toArray,?_,A.take e.size,a,j⟩;simp[r.bk,n]
def pp{J}{e}(r:dR P o e)(s:∀d,d<j->∃k,J.cell? ⟨i,off+d,p⟩=f k)(h:(if e.agg then e.size else 1)<=j):
  ∀g∈(loadVar o ⟨i,off,p⟩).events P J #[],∃d,d<j/\g=pH i (off+d):=by
 intro g b;simp only[loadVar,aF,r.ew,aK,events_isAgg]at b;cases n:e.agg
 .rw[n]at h b;obtain⟨k,q⟩:=s 0 N;simp[kf]at q;simp only[ka,dh,CC q]at b;rcases Array.mem_push.1 b with t|rfl
  .grind
  exact⟨0,by grind,a⟩
 rw[n]at h b;simp[dH]at h;simp[dH,aF,r.bk,aK,events_sizeOf]at b;have key:∀g∈(loadCells ⟨i,off,p⟩ e.size).events P J #[],∃d,d<j/\g=pH i (off+d):=by
  intro g b;rcases I' (P:=P) (λd u=>s d x) g b with t|⟨d,u,rfl⟩
  .grind
  grind
 apply key;generalize(loadCells ⟨i,off,p⟩ e.size).run P J=w at b;cases w with
 |ok k l=>simpa using b
 |halt y l=>simpa using b
theorem sf{e}{ai}{g}(a:hf e ai=f g):(if e.agg then e.size else 1)<=c ai:=by
 unfold hf at a;cases b:e.agg<;>rw[b]at a
 .cases ai with
  |nil=>simp[c9]at a
  |cons h ai=>simp
 simp only at a;cases d:mZ e.size ai with
 |none=>grind
 |some k=>
  obtain⟨i,j⟩:=tW d;grind
theorem a0.hp{ad}(aV:bn P ad)(C:s.op=.load o k){ai}{e}{aj}(O:η k=aD d off)(aG:l[d]?=f (.cells W ai))(q:b1 ad o=f e)(F:hf e (fU off ai)=f aj):a0 P s η l (.p aj) l:=by
 refine .dw λb x r t=>?_
 have n:=t k;rw[O]at n;obtain⟨_,L,i,J,y,I⟩:=n;obtain⟨w,A,rfl,D,z,_⟩:=r.box d _ L aG J;simp at y;subst y;rw[rK]at F;obtain⟨K,B,N⟩:=tJ (b:=b) (l:=l) (P:=P) (aV o e q) (i:=w) (off:=off) (A:=A.drop off) (ai:=ai.drop off) (aj:=aj) (λu K g=>by
  simp[aM,D]
  grind) (z.drop off) F
 refine⟨K,by simp[ac,C,I,Instr.loadAt,Instr.sureAddr,B],N,λh a=>?_⟩;have M:h∈(loadVar o ⟨w,off,p⟩).events P b.a #[]:=by
  have aj:ac x s=(do pure (.value (<-loadVar o ⟨w,off,p⟩))):=by simp[ac,C,I,Instr.loadAt,Instr.sureAddr]
  rw[aj]at a;simpa[B]using a
 have Q:c (A.drop off)=c (ai.drop off):=(z.drop off).cM;obtain⟨u,g,rfl⟩:=pp (aV o e q) (j:=c (A.drop off)) (λu g=>by refine⟨(A.drop off)[u],?_⟩;simp only[aM,D];simp at g⊢<;>omega) (by grind[sf]) h M;exact qt (ca J) E
theorem a0.hq{ad}(aV:bn P ad)(I:s.op=.load o k){ai}{e}{aj}(W:η k=aw (.Q ai))(x:b1 ad o=f e)(O:hf e (ai.map Q.c)=f aj):a0 P s η l (.p aj) l:=by
 refine .dw λb y w C=>?_;have t:=C k;rw[W]at t;have u:=b8 t;generalize F:y k=X at u;cases u;rename_i i off B q J;have V:∀j h,(∀d z,h[d]?=f z->Rd b.E (B (j+d)) z)->bO l b ((aB (c h)).map λd=>B (j+d)) (h.map Q.c):=by
  intro j h;induction h generalizing j with
  |nil=>intro _;trivial
  |cons S h D=>
   intro M;rw[fp,w_];refine⟨M 0 S a,?_⟩;have:=D (j+1) (λd z g=>by have:=M (d+1) z N;grind);grind[Function.comp_def]
 obtain⟨R,K,U⟩:=tJ (b:=b) (l:=l) (P:=P) (aV o e x) (i:=i) (off:=off) (A:=(aB (c ai)).map λd=>B (0+d)) (ai:=ai.map Q.c) (aj:=aj) (λd R g=>by
  simp[ng,cV]at g;by_cases E:d<c ai
  .simp[E]at g;subst g;exact w.mem _ _ _ (q d ai[d] (bG E))
  grind) (V 0 ai N) O
 refine⟨R,by simp[ac,I,F,Instr.loadAt,Instr.sureAddr,K],U,λr n=>?_⟩;have T:r∈(loadVar o ⟨i,off,p⟩).events P b.a #[]:=by
  have aj:ac y s=(do pure (.value (<-loadVar o ⟨i,off,p⟩))):=by simp[ac,I,F,Instr.loadAt,Instr.sureAddr]
  rw[aj]at n;simpa[K]using n
 obtain⟨d,g,rfl⟩:=pp (aV o e x) (j:=c ai) (λd g=>⟨B d,w.mem _ _ _ (q d ai[d] (bG g))⟩) (by have:=sf O;grind) r T;exact IK (q d ai[d] (bG g))
def iV{d:Type}:Nat->n d->n d->Option (n d)
 |0,[],i=>f i
 |0,j::b,_::a=>match iV 0 b a with|some e=>f (j::e)|none=>p
 |h+1,b,g::a=>match iV h b a with|some e=>f (g::e)|none=>p
 |_,_,[]=>p
def EA{h:Type}:∀{a:Nat}{new g e:n h},iV a new g=f e->a+c new<=c g/\e=g.take a++new++g.drop (a+c new)
 |0,[],g,e,t=>by cases g<;>cases t<;>simp
 |0,l::b,k::d,e,t=>by
  simp[iV]at t;cases w:iV 0 b d with
  |none=>grind
  |some o=>
   exact Pf
 |0,l::b,[],e,t=>by simp[iV]at t
 |j+1,b,k::d,e,t=>by
  simp[iV]at t;cases w:iV j b d with
  |none=>grind
  |some o=>
   exact Pf
 |j+1,b,[],e,t=>by simp[iV]at t
def bO.fl{new}{ai a g}(h:AM.iV off a ai=f g)(d:bO l b A ai)(e:bO l b new a):
  off+c new<=c A/\bO l b (A.take off++new++A.drop (off+c new)) g:=by obtain⟨k1,rfl⟩:=EA h;rw[e.cM,d.cM];refine⟨k1,((d.take off).append e).append (by have:=d.drop (off+c a);exact this)⟩
theorem a0.store{ad}(aV:bn P ad)(F:s.op=.store o k X){ai new h}{e}(K:η k=aD d off)(aG:l[d]?=f (.cells W ai))(q:b1 ad o=f e)(y:mx (η X)=f new)(r:c new=e.size)(O:iV off new ai=f h):
  a0 P s η l .any (l.set d (.cells W h)):=by
 intro w g n t;have j:=t k;rw[K]at j;obtain⟨_,L,Y,z,D,J⟩:=j;obtain⟨u,A,rfl,I,S,Q⟩:=n.box d _ L aG z;simp at D;subst D;have i:=u3 y (t X);obtain⟨k1,U⟩:=bO.fl O S i;obtain⟨w1,w2⟩:=n.write aG z rfl U;refine⟨.skip,_,?_,a,w1,w2,?_⟩
 rotate_left
 .intro IJ b;have x:(g X).cells.size=e.size:=by rw[<-r,<-i.cM,nd]
  have M:ac g s=(do storeVar o ⟨u,off,p⟩ (g X);pure .skip):=by simp[ac,F,J,Instr.storeAt,Instr.sureAddr]
  rw[M]at b;have R:IJ∈(storeCells ⟨u,off,p⟩ (g X).cells.toList).events P w.a #[]:=by
   simp[storeVar,aF,(aV o e q).bk,x,aK,events_sizeOf,d',hs,dh,cI,c7,Sem.events_pure]at b;generalize(storeCells ⟨u,off,p⟩ (g X).cells.toList).run P w.a=T at b;cases T with
   |ok aa B=>simpa using b
   |halt k B=>simpa using b
  rcases nn (g X).cells.toList 0 A.toArray w.a #[] I N i.cell IJ R with V|⟨Z,_,_,rfl⟩
  .grind
  exact ow (ca z) E (Q _)
 have C:=run_storeCells_at P u off W (g X).cells.toList 0 A.toArray w.a I N (i.cell);have x:(g X).cells.size=e.size:=by rw[<-r,<-i.cM,nd]
 simp[kf]at C;simp[ac,F,J,Instr.storeAt,Instr.sureAddr,storeVar,(aV o e q).bk,x,C]
def lk(d:n (Nat×bv))(i:aq)(g:Nat):Option (Nat×bv):=
 match b1 d i with
 |some h=>match h.desc with
  |.struct b=>match c9 g b.toList with
   |some a=>match b1 d a.type with
    |some e=>cond (af e.size 0) p (f (a.offset,e))
    |none=>p
   |none=>p
  |_=>p
 |none=>p
def CY{ad}(aV:bn P ad){l}{u}(e:lk ad o l=f (off,u)):
  ∃j d b,b1 ad o=f j/\j.desc=.struct d/\d[l]?=f b/\b.offset=off/\b1 ad b.type=f u/\u.size≠0/\dR P o j/\dR P b.type u:=by
 unfold lk at e;split at e
 .rename_i j bp;split at e
  .rename_i d h;split at e
   .rename_i b g;split at e
    .rename_i i k;cases n:af i.size 0<;>simp[n]at e
     obtain⟨rfl,rfl⟩:=e;refine⟨j,d,b,bp,h,by simpa using er g,a,k,?_,aV _ _ bp,aV _ _ k⟩;intro q;simp_all
    grind
   grind
  grind
 grind
def zf{ad}(aV:bn P ad){a}{u}(n:lk ad o a=f (off,u))(i s)(b):
  (Instr.fieldAt o (.pointer (f ⟨i,s,p⟩)) a).run P b=.ok (.pointer (f ⟨i,s+off,p⟩)) b:=by obtain⟨r,k,j,t,h,q,l,w,d,g,e⟩:=CY aV n;simp[Instr.fieldAt,g.run_underlying,h,q,Instr.sureAddr,fieldPlace,e.bk,d,gQ,l]
def yd{ad}(aV:bn P ad){a}{u}(l:lk ad o a=f (off,u))(i s)(n)(V):
  (Instr.fieldAt o (.pointer (f ⟨i,s,p⟩)) a).events P n V=V:=by obtain⟨q,j,h,t,g,k,r,w,b,e,d⟩:=CY aV l;simp[Instr.fieldAt,e.run_underlying,g,k,Instr.sureAddr,fieldPlace,d.bk,b]
def a0.g8{ad}(aV:bn P ad){q}(r:s.op=.fieldAddr o k q){h}{u}(y:η k=aD d off)(j:lk ad o q=f (h,u)):a0 P s η l (aD d (off+h)) l:=by refine .aW λA z x g=>?_;have b:=g k;rw[y]at b;obtain⟨e,L,i,w,t,n⟩:=b;exact⟨.pointer (f ⟨i,off+h,p⟩),by simp[ac,r,n,zf aV j],⟨e,L,i,w,t,a⟩,by simp[ac,r,n,yd aV j]⟩
theorem a0.g9{ad}(aV:bn P ad){q}(r:s.op=.fieldAddr o k q){ai}{h}{u}(A:η k=aw (.Q ai))(n:lk ad o q=f (h,u)):a0 P s η l (aw (.Q (fU h ai))) l:=by refine .aW λC g y e=>?_;have a:=e k;rw[A]at a;have b:=b8 a;generalize i:g k=B at b;cases b;rename_i j s x z t;refine⟨.pointer (f ⟨j,s+h,p⟩),by simp[ac,r,i,zf aV n],?_,by simp[ac,r,i,yd aV n]⟩;rw[rK];refine Rd.Q j (s+h) (λu=>x (h+u)) (λu w d=>N) (λu w d=>?_);grind
def R_{e}(k:dR P o e){ai}(q:bO l b A ai){j}(d:hf e (fU off ai)=f j)(h):
  ∃g,(part o A.toArray off).run P h=.ok g h/\ez l b g j/\∀a,(part o A.toArray off).events P h a=a:=by
 simp[part,cI,k.ew,c7,aF,aK,events_isAgg];rw[rK]at d;cases t:e.agg<;>simp[hf,t]at d
 .cases r:c9 0 (ai.drop off)with
  |none=>grind
  |some w=>
   simp[r]at d;subst d;obtain⟨g,n,s⟩:=(q.drop off).get (er r);simp at n;refine⟨g,?_,s,λa=>?_⟩<;>simp[n]
 cases r:mZ e.size (ai.drop off)with
 |none=>grind
 |some y=>
  simp[r]at d;subst d;obtain⟨u,x⟩:=tW r;have i:=(q.drop off).take e.size;rw[<-u]at i;refine⟨.agg (A.toArray.extract off (off+e.size)),by simp[k.bk],⟨(A.drop off).take e.size,?_,i⟩,λa=>by simp⟩;simp
theorem a0.field{P}{ad}(aV:bn P ad){s}{d:aA->y}{l}{o}{k}{i}(n:s.op=.field o k i){ai}{h}{u}{g}(M:d k=.p (.agg ai))(F:lk ad o i=f (h,u))(J:hf u (fU h ai)=f g):a0 P s d l (.p g) l:=by refine .aW λK O E e=>?_;have a:=e k;rw[M]at a;obtain⟨A,q,z⟩:=a;obtain⟨Q,D,C,a,b,t,r,S,R,j,I⟩:=CY aV F;obtain⟨N,B,w,x⟩:=R_ I z J K.a;exact⟨N,by simp[ac,n,q,Instr.field,j.run_underlying,b,t,asAgg,r,B],w,by simp[ac,n,q,Instr.field,j.run_underlying,b,t,asAgg,r,x]⟩
theorem a0.hD(h:s.op=.nilCheck k)(j:η k=aD d off):a0 P s η l (aD d off) l:=by refine .aW λu e n b=>?_;have a:=b k;rw[j]at a;have i:=a;obtain⟨o,L,q,t,r,g⟩:=a;exact⟨e k,by simp[ac,h,g],i,by simp[ac,h,g]⟩
theorem a0.hE(h:s.op=.nilCheck k){ai}(i:η k=aw (.Q ai)):a0 P s η l (aw (.Q ai)) l:=by refine .aW λo e j d=>?_;have a:=d k;rw[i]at a;have b:=b8 a;generalize g:e k=n at b;cases b;exact⟨_,by simp[ac,h,g];rfl,by grind,by simp[ac,h,g]⟩
def YN(new):∀d a(b:Array Z),a+d+c new<=b.size ->
  ((new.zipIdx d).foldl (λb (g:Z×Nat)=>b.setIfInBounds (a+g.2) g.1) b).toList=b.toList.take (a+d)++new++b.toList.drop (a+d+c new):=by
 induction new with
 |nil=>simp
 |cons h A e=>
  intro d a b i;simp[List.zipIdx_cons,kb];rw[e (d+1) a _ N];have:=list_seg_step b.toList (a+d) h A N;simpa[Array.toList_setIfInBounds,Nat.add_assoc]using this
def rM(place:Nat->Option (Nat×Nat)):n (Nat×n Q)->n Q->Option (n Q)
 |[],a=>f a
 |(e,new)::b,a=>match place e with
  |some (d,size)=>match af (c new) size with
   |true=>match iV d new a with
    |some g=>rM place b g
    |none=>p
   |false=>p
  |none=>p
def yl{l}{b}{place vU:Nat->Option (Nat×Nat)}(z:∀x g,place x=f g->vU x=f g):∀{parts:n (Nat×n Q)}{zO:n (Nat×Z)}{ai bb:n Q}{A:Array Z},
  rM place parts ai=f bb->zO.map (·.1)=parts.map (·.1)->(∀(s:Nat) g k,parts[s]?=f g->zO[s]?=f k->bO l b k.2.cells.toList g.2)->bO l b A.toList ai ->
  ∃r,Instr.fill vU A zO=f r/\bO l b r.toList bb
 |[],[],ai,bb,A,e,_,_,o=>by cases e;exact⟨A,a,o⟩
 |[],_::_,ai,bb,A,e,j,_,o=>by grind
 |_::_,[],ai,bb,A,e,j,_,o=>by grind
 |(x,new)::i,(w,t)::h,ai,bb,A,e,j,q,o=>by
  simp[mr,List.cons.injEq]at j;obtain⟨rfl,j⟩:=j;simp[rM]at e;cases y:place w with
  |none=>grind
  |some g=>
   obtain⟨d,size⟩:=g;simp[y]at e;cases C:af (c new) size with
   |false=>grind
   |true=>
    simp[C]at e;cases D:iV d new ai with
    |none=>grind
    |some k=>
     simp[D]at e;have u:=q 0 (w,new) (w,t) a a;simp only at u;have R:=u.cM;have J:c new=size:=di C;obtain⟨k1,O⟩:=bO.fl D o u;have M:=YN t.cells.toList 0 d A N;have F:t.cells.size=size:=N;have K:d+size<=A.size:=N;obtain⟨r,I,B⟩:=yl (l:=l) (b:=b) z (parts:=i) (zO:=h) (ai:=k) (bb:=bb)
      (A:=t.cells.zipIdx.foldl (λai (E:Z×Nat)=>ai.setIfInBounds (d+E.2) E.1) A) e j (λs g k I B=>q (s+1) g k N N) (by grind[Array.toList_zipIdx])
     refine⟨r,?_,B⟩;simp[Instr.fill,z _ _ y,F,d',hs,n_,Bool.false_or,bA];grind
def tB(b:n (Nat×bv)):n Field->Option (n (Nat×Nat))
 |[]=>f []
 |d::a=>match b1 b d.type with
  |some e=>match tB b a with
   |some g=>f ((d.offset,e.size)::g)
   |none=>p
  |none=>p
def LB{P}{ad}(aV:bn P ad):∀{a:n Field}{e:n (Nat×Nat)},tB ad a=f e->a.mapM (λd=>(P.info? d.type).map λk=>(d.offset,k.size))=f e
 |[],e,b=>by cases b;simp
 |d::a,e,b=>by
  simp[tB]at b;cases h:b1 ad d.type with
  |none=>grind
  |some o=>
   cases g:tB ad a with
   |none=>grind
   |some q=>
    simp[h,g]at b;subst b;obtain⟨l,r,j,i,_⟩:=(aV _ _ h).dc;simp[pc,j,i,LB aV g]
def pF(a:aA->y):n (Nat×aA)->Option (n (Nat×n Q))
 |[]=>f []
 |(d,h)::g=>match mx (a h)with
  |some b=>match pF a g with
   |some e=>f ((d,b)::e)
   |none=>p
  |none=>p
def y4{l}{b}{d:aA->Z}{a:aA->y}(t:∀s,bx l b (d s) (a s)):∀{j:n (Nat×aA)}{g:n (Nat×n Q)},pF a j=f g ->
  (j.map λ(i,h)=>(i,d h)).map (·.1)=g.map (·.1)/\∀(o:Nat) q r,g[o]?=f q->(j.map λ(i,h)=>(i,d h))[o]?=f r->bO l b r.2.cells.toList q.2
 |[],g,e=>by cases e;simp
 |(i,h)::z,g,e=>by
  simp[pF]at e;cases u:mx (a h)with
  |none=>grind
  |some w=>
   cases k:pF a z with
   |none=>grind
   |some x=>
    simp[u,k]at e;subst e;obtain⟨B,A⟩:=y4 t k;grind[u3]
def xy(g:n (Nat×bv))(e:aA->y)(j:aq)(parts:n (Nat×aA)):Option (n Q):=
 match b1 g j with
 |some h=>match h.desc with
  |.struct a=>match tB g a.toList with
   |some b=>match pF e parts with
    |some d=>rM (λi=>c9 i b) d (h.zero.map Q.c)
    |none=>p
   |none=>p
  |_=>p
 |none=>p
theorem a0.build{P}{ad}(aV:bn P ad){s}{d:aA->y}{l}{o}{parts}(z:s.op=.build o parts){ai}(e:xy ad d o parts.toList=f ai):a0 P s d l (.p (.agg ai)) l:=by
 refine .aW λb r B k=>?_;unfold xy at e;cases a:b1 ad o with
 |none=>grind
 |some i=>
  simp[a]at e;cases x:i.desc with
  |struct j=>
   simp[x]at e;cases w:tB ad j.toList with
   |none=>grind
   |some q=>
    simp[w]at e;cases u:pF d parts.toList with
    |none=>grind
    |some J=>
     simp[u]at e;obtain⟨S,V,I,T,O,E,K,U,Q⟩:=(aV o i a).dc;obtain⟨D,n⟩:=y4 (l:=l) (b:=b) k u;obtain⟨g,M,F⟩:=yl (l:=l) (b:=b) (vU:=λA=>q.toArray[A]?) (λA R C=>by grind[er]) e D n (ux K);have h:P.built o (parts.map λ(i,N)=>(i,r N)).toList=f g:=by unfold Program.built;have t:=(aV o i a).eN;rw[x]at t;simp[I,t,E,LB aV w];simpa using M
     refine⟨.agg g,?_,⟨g.toList,by simp,F⟩,?_⟩
     .simp only[ac,z,cI,run_build b.a o _ g h,c7,d_]
     simp[ac,z,aF,run_build b.a o _ g h,aK,Sem.events_pure];exact dC.build b.a #[]
  |_=>grind
theorem aaD{h}(a:e<j)(d:u<h):e*h+u<j*h:=by have b:(e+1)*h<=j*h:=gX h x;grind
theorem aaC{h}(a:u<h):(e*h+u) / h=e:=by grind[Nat.mul_comm,Nat.mul_add_div,Nat.div_eq_of_lt]
theorem aaE{h}(a:u<h):(e*h+u) % h=u:=by rw[Nat.mul_comm,Nat.mul_add_mod,Nat.mod_eq_of_lt a]
def e1.nil{h}:e1 bD h 0 V []:=⟨by simp,by omega,by omega⟩
def cf(b:Nat)(d e:Nat->n O):Nat->n O:=λa=>if a<b then d a else e (a-b)
def e1.append{h}{b:Nat->n O}{i}(g:e1 bD h j V A)(o:e1 bD h z b i):e1 bD h (j+z) (cf j V b) (A++i):=by
 refine⟨by simp[g.len,o.len,jH],λe r=>?_,λe r k s a=>?_⟩
 .simp only[cf];split
  .rename_i l;exact g.bJ e l
  exact o.bJ _ x
 simp[cf]at a;split at a
 .rename_i l;obtain⟨t,q,d⟩:=g.rd e l k s a;grind
 rename_i w;obtain⟨t,q,d⟩:=o.rd _ x k s a;refine⟨t,?_,d⟩;have u:e*h+k=c A+((e-j)*h+k):=by rw[g.len,<-Nat.add_assoc,<-jH,AX x]
 grind
def e1.cell{bD}{h j}{d:Nat->n O}{A}(i:e1 bD h j d A):∀g∈A,g.oneCell'=m:=by intro g o;obtain⟨a,q,rfl⟩:=hq o;rw[i.len]at q;have l:0<h:=N;have e:a / h<j:=sy N;have s:a % h<h:=qc _ l;have t:=i.bJ _ e;obtain⟨g,b,k⟩:=i.rd (a / h) e (a % h) ((d (a / h))[a % h]'x) (bG x);have r:a / h*h+a % h=a:=uF a h;rw[r]at b;rw[bG N]at b;simp at b;rw[b];have:=Rd.cell k;cases g<;>simp_all[dY,Value.oneCell']
def Rd.b3{o}{h}(D:Rd bD aa (.C o h j V)):
  ∃k b A,aa=.slice k j b/\j<=b/\b<=9223372036854775807/\(o=m->b=j)/\e1 bD h j V A/\∀e u,A[e]?=f u->∃l d,k=f ⟨l,d,p⟩/\bD l (d+e)=f u:=by
 cases D with
 |@C k _ b _ _ _ l d z w r t i q s F=>
  refine⟨k,b,(aB (j*h)).map λe=>z (e / h) (e % h),a,w,r,t,⟨by simp,i,?_⟩,?_⟩
  .grind [aaD,aaC,aaE]
  intro e u n;simp[ng]at n;by_cases y:e<j*h
  .simp[y]at n;subst n;have B:0<h:=N;have g:e / h<j:=sy N;have E:e % h<h:=qc _ B;have I:=i _ g;have:=s (e / h) g (e % h) ((V (e / h))[e % h]'x) (bG x);refine⟨l,d,q (Nat.lt_of_le_of_lt (g0 _) g),?_⟩;grind[Nat.div_add_mod']
  grind
def Rd.eJ{h}(k:e1 bD h j V A){w}{cap}{o}(u:0<j->w=f ⟨i,off,p⟩)(t:j<=cap)(q:cap<=9223372036854775807)(x:o=m->cap=j)(y:∀r s,A[r]?=f s->bD i (off+r)=f s):Rd bD (.slice w j cap) (.C o h j V):=by
 refine .C i off (λd e=>(A[d*h+e]?).getD K) t q x k.bJ u (λd a e g b=>?_) (λd a e g b=>?_)
 .obtain⟨aa,l,n⟩:=k.rd d a e g b;grind
 obtain⟨aa,l,n⟩:=k.rd d a e g b;grind
def oV(z:bd l b){o}{h}(u:Rd b.E aa (.C o h j V)):
  ∃A,e1 b.E h j V A/\(Builtin.firstCells h j aa).run P b.a=.ok A.toArray b.a/\Builtin.lenOf aa=pure j:=by
 obtain⟨r,k,A,rfl,B,E,D,q,n⟩:=u.b3;refine⟨A,q,?_,a⟩;have w:c A=j*h:=q.len;cases r with
 |none=>
  have:A=[]:=by
   cases A with
   |nil=>rfl
   |cons i C=>obtain⟨s,d,g,_⟩:=n 0 i rfl;cases g
  subst this;rfl
 |some e=>
  simp[Builtin.firstCells];rw[<-w];refine run_loadCells_list b.a e A λx i t=>?_;obtain⟨s,d,g,y⟩:=n x i t;cases g;rw[gQ];exact z.mem _ _ _ y
def a0.jh{ad}(aV:bn P ad)(t:s.op=.index o k X){d}{u}{h}{e}(bp:b1 ad o=f e)(ae:e.desc=.string)(E:η k=aw (.T d))(D:η X=aw (.int h u))(J':u=z)(A:z<c d):a0 P s η l (aw (.int .u8 (d[z]).toNat)) l:=by
 refine .aW λb r x q=>?_;have g:=q k;have j:=q X;rw[E]at g;rw[D]at j;replace g:=b8 g;replace j:=b8 j;generalize w:r k=F at g;generalize I:r X=K at j;cases g with
 |@T a _ C y=>
 cases j;subst C;have B:a[z]?=f (a.data.toList[z]):=by have n:z<a.size:=ds;rw[getElem?_pos a z n];congr 1
 refine⟨.int .u8 (a.data.toList[z]).toNat,?_,Rd.int ?_,?_⟩
 rotate_left 2
 .exact Rc
 .exact Rc
 have:=(a.data.toList[z]).toNat_lt;exact m3
def a0.indexAddr{ad}(aV:bn P ad)(S:s.op=.indexAddr o k X){e a4}(C:b1 ad o=f e)(Q:e.desc=.slice W)(N:b1 ad W=f a4){eU}{u}{h}(y:∀q M,bx l q M (η k)->Rd q.E M (.C eU a4.size j V))(O:η X=aw (.int h u))(D:u=z)(w:z<j):
  a0 P s η l (aw (.Q (V z))) l:=by
 refine .aW λq r U i=>?_;have d:=y q _ (i k);have a:=i X;rw[O]at a;replace a:=b8 a;generalize ab:r k=ag at d;generalize ae:r X=ah at a;cases a;cases d with
 |@C ai _ I _ _ _ F b R aj T Z Y B g n=>
 have aa:0<j:=x;have K:=(aV o e C).run_underlying (J:=q.a);rw[Q]at K;refine⟨.pointer (f ⟨F,b+z*a4.size,p⟩),?_,Rd.Q F (b+z*a4.size) (R z) (λE t A=>g z w E t A) (λE t A=>n z w E t A),?_⟩<;>
 simp[ac,S,ab,ae,Instr.indexAt,asIntOf,K,D,B aa,(aV W a4 N).bk,gQ,w]
def a0.jq{ad}(aV:bn P ad)(t:s.op=.call {callee:=.builtin .len,args:=#[k],argTypes:=dn})(y:dn[0]?=f o){e}(b:b1 ad o=f e)(r:e.desc=.slice W){eU}{h}(z:∀a n,bx l a n (η k)->Rd a.E n (.C eU h j V)):a0 P s η l (aw (.int .i64 j)) l:=by
 refine .aW λa B w d=>?_;obtain⟨C,g,A,x,D,u,_⟩:=(z a _ (d k)).b3;have i:=(aV o e b).run_underlying (J:=a.a);rw[r]at i;have q:dn[0]?=f o:=y;refine⟨.int .i64 j,?_,Rd.int m3,?_⟩<;>
 simp[ac,t,resolve,invoke,builtin,Builtin.len_,x,i,goInt,q]
theorem a0.jr{ad}(aV:bn P ad)(u:s.op=.call {callee:=.builtin .len,args:=#[k],argTypes:=dn})(z:dn[0]?=f o){e}(b:b1 ad o=f e)(t:e.desc=.string){d}(A:η k=aw (.T d)):a0 P s η l (aw (.int .i64 (c d))) l:=by
 refine .aW λB i w g=>?_;have a:=g k;rw[A]at a;replace a:=b8 a;generalize n:i k=C at a;cases a with
 |@T h _ y x=>
 have j:=(aV o e b).run_underlying (J:=B.a);rw[t]at j;have q:dn[0]?=f o:=z;have r:h.size=c d:=by rw[<-y];simp
 refine⟨.int .i64 (c d),?_,Rd.int m3,?_⟩<;>
 simp[ac,u,resolve,invoke,builtin,Builtin.len_,n,j,goInt,q,r]
def a5.newRow(a:a5)(e:aq)(A:n Z):a5:=
 {t:=a.t,E:=λb d=>if b=a.a.heap.size then A[d]? else a.E b d,a:=a.a.alloc (.cells A.toArray e),own:=a.own}
def bd.newRow{l}{b}(h:bd l b)(W)(A):bd l (b.newRow W A)/\cN l b l (b.newRow W A):=by
 refine h.cX E (λg d=>iR _ _ d) (λg d j=>by grind) (λg d j k e=>?_) a a a;by_cases i:g=b.a.heap.size
 .simp_all
 simp[i,dh]at e;have:=h.block e;omega
def abm(d:a5)(W)(A):∀a b,A[a]?=f b->(d.newRow W A).E d.a.heap.size (0+a)=f b:=by intro a b e;simpa[a5.newRow]using e
def h4:n Q->Option (n O)
 |[]=>f []
 |.c e::d=>match h4 d with|some b=>f (e::b)|none=>p
 |.w _ g h a::d=>match h4 d with|some b=>f (.C v g h a::b)|none=>p
 |_::_=>p
def rJ{l}{b}:∀{i:n Q}{g:n O}{A:n Z},h4 i=f g->bO l b A i->bO l b A (g.map Q.c)
 |[],g,A,a,e=>by cases a;exact e
 |_::_,_,[],_,e=>e.elim
 |.c r::d,g,j::A,a,e=>by
  simp[h4]at a;cases h:h4 d with
  |none=>grind
  |some q=>simp[h]at a;subst a;exact⟨e.1,rJ h e.2⟩
 |.w k s t o::d,g,j::A,a,e=>by
  simp[h4]at a;cases h:h4 d with
  |none=>grind
  |some q=>simp[h]at a;subst a;exact⟨e.1.1,rJ h e.2⟩
 |.ptr k u::d,g,j::A,a,e=>by simp[h4]at a
 |.aV k::d,g,j::A,a,e=>by simp[h4]at a
 |.S k w::d,g,j::A,a,e=>by simp[h4]at a
 |.any::d,g,j::A,a,e=>by simp[h4]at a
def rH{a:Type}(b:Nat):Nat->n a->Option (n (n a))
 |0,[]=>f []
 |0,_::_=>p
 |g+1,d=>match mZ b d with
  |some e=>match rH b g (fU b d)with
   |some h=>f (e::h)
   |none=>p
  |none=>p
def bO.e0:∀{A:n Z}{a:n O},bO l b A (a.map Q.c)->∀(u:Nat)d,a[u]?=f d->∃e,A[u]?=f e/\Rd b.E e d:=by intro A a i u d j;obtain⟨e,g,h⟩:=i.get (u:=u) (w:=.c d) N;exact⟨e,g,h⟩
def B0{bD}{h}:∀{j:Nat}{b:n O}{d:n (n O)}{A:n Z},rH h j b=f d->c A=c b->(∀(k:Nat)e,b[k]?=f e->∃o,A[k]?=f o/\Rd bD o e)->c d=j/\e1 bD h j (λi=>d.getD i []) A
 |0,[],d,A,g,l,r=>by cases g;simp at l;subst l;exact⟨a,.nil⟩
 |0,_::_,d,A,g,l,r=>by cases g
 |j+1,b,d,A,g,l,r=>by
  simp[rH]at g;cases t:mZ h b with
  |none=>grind
  |some e=>
   simp[t]at g;cases q:rH h j (fU h b)with
   |none=>grind
   |some u=>
    simp[q]at g;subst g;obtain⟨D,s⟩:=tW t;rw[rK]at q;obtain⟨E,z⟩:=B0 (A:=A.drop h) q N (λk e C=>by
     obtain⟨o,D,s⟩:=r (h+k) e N
     exact⟨o,by grind,s⟩)
    refine⟨by grind,?_⟩;have y:h<=c b:=N;have B:e1 bD h 1 (λ_=>e) (A.take h):=by refine⟨by grind,by grind,λi x k F C=>?_⟩;grind
    have:=B.append z;rw[Nat.add_comm 1 j]at this;have w:cf 1 (λ_=>e) (λi=>u.getD i [])=λi=>(e::u).getD i []:=by funext i;cases i<;>simp[cf]
    rw[w]at this;simpa using this
def rW(i:n (Nat×bv))(h:aA->y)(q:aq)(e:Nat)(parts:n (Nat×aA)):Option (Nat×n (n O)):=
 match b1 i q with
 |some k=>match k.desc with
  |.slice j=>match b1 i j with
   |some a=>match af a.size 0 with
    |true=>p
    |false=>match ay (e*a.size) 16777216 with
     |true=>match pF h parts with
      |some g=>match rM (λl=>f (l*a.size,a.size)) g (aY (e*a.size) Q.any)with
       |some b=>match h4 b with
        |some o=>match rH a.size e o with
         |some d=>f (a.size,d)
         |none=>p
        |none=>p
       |none=>p
      |none=>p
     |false=>p
   |none=>p
  |_=>p
 |none=>p
theorem a0.buildSlice{P}{ad}(aV:bn P ad){s}{w:aA->y}{l}{o}{j}{parts}(t:s.op=.buildSlice o j parts){h}{V}(e:rW ad w o j parts.toList=f (h,V)):a0 P s w l (aw (.C m h j λu=>V.getD u [])) l:=by
 intro b q R T;unfold rW at e;cases B:b1 ad o with
 |none=>grind
 |some u=>
  simp[B]at e;cases ah:u.desc with
  |slice r=>
   simp[ah]at e;cases D:b1 ad r with
   |none=>grind
   |some d=>
    simp[D]at e;cases U:af d.size 0 with
    |true=>grind
    |false=>
     simp[U]at e;cases G:ay (j*d.size) 16777216 with
     |false=>grind
     |true=>
      simp[G]at e;cases az:pF w parts.toList with
      |none=>grind
      |some aa=>
       simp[az]at e;cases ax:rM (λh=>f (h*d.size,d.size)) aa (aY (j*d.size) Q.any)with
       |none=>grind
       |some I=>
        simp[ax]at e;cases H:h4 I with
        |none=>grind
        |some aI=>
         simp[H]at e;cases ag:rH d.size j aI with
         |none=>grind
         |some an=>
          simp only[ag,eW,lK]at e;obtain⟨rfl,rfl⟩:=e;have aS:d.size≠0:=λak=>by simp_all
          have aR:=fe G;obtain⟨au,k,NP,aM,aN,a,bq,aO,aQ⟩:=(aV r d D).dc;have ar:k.cells.size=d.size:=N9;have aq:∀g∈k.cells.toList,dY g=m:=by intro g L;have aj:lL g∈k.cells.toList.map lL:=k_.2 ⟨g,L,rfl⟩;rw[bq]at aj;obtain⟨aT,_,O⟩:=k_.1 aj;exact(Rd.ft (bD:=b.E) O.symm).cell
          have aL:∀aH,(∀g∈(aB aH).map (λC=>k.cells[C % k.cells.size]!),dY g=m):=by grind[Nat.mod_lt]
          have aC:∀A:n Z,(∀g∈A,dY g=m)->bO l b A (aY (c A) Q.any):=by
           intro A;induction A with
           |nil=>intro _;trivial
           |cons g A W=>intro L;exact⟨L g E,W λaJ av=>L aJ N⟩
          obtain⟨X,Y⟩:=y4 (l:=l) (b:=b) T az;have aE:bO l b ((Array.range (j*d.size)).map (λC=>k.cells[C % k.cells.size]!)).toList (aY (j*d.size) Q.any):=by have:=aC _ (aL (j*d.size));simpa using this
          obtain⟨z,aK,ab⟩:=yl (l:=l) (b:=b) (vU:=λh=>f (h*d.size,d.size)) (λh aU S=>S) ax X Y aE;have nP:=rJ H ab;obtain⟨aG,F⟩:=B0 (bD:=b.E) (A:=z.toList) ag (by simpa using nP.cM) nP.e0;obtain⟨M,ai⟩:=R.newRow r z.toList;refine⟨.value (.slice (f ⟨b.a.heap.size,0,p⟩) j j),b.newRow r z.toList,?_,?_,M,ai,?_⟩
          rotate_left 2
          .have ak:(ac q s).events P b.a #[]=#[]:=Ry;rw[ak];exact .nil
          .have av:=(aV o u B).run_underlying (J:=b.a);rw[ah]at av;have aD:(zeroValue r).run P b.a=.ok k b.a:=N';have K:Instr.fill (λh=>f (h*d.size,d.size)) ((Array.range (j*d.size)).map (λC=>k.cells[C % k.cells.size]!)) (parts.map λ(u,ae)=>(u,q ae)).toList=f z:=bw;by_cases aF:j*d.size=0
           .have aP:j=0:=by grind[Nat.mul_eq_zero]
            subst aP;have ao:Array.range 0=#[]:=rfl;simp[ao]at K;simp[ac,t,Instr.buildSlice,av,(aV r d D).bk,ao,K,Go.newRow,a5.newRow]
           rw[show ac q s=(do pure (.value (<-Instr.buildSlice o j (parts.map λ(u,ae)=>(u,q ae))))) by simp[ac,t]];simp only[Instr.buildSlice,cI,av,c7,(aV r d D).bk,aF,dh,aD,show¬j*d.size>2 ^ 24 by omega,sK,K,d_];simp[Go.newRow,a5.newRow]
          refine Rd.eJ (F.mono ai.mem) (i:=b.a.heap.size) (off:=0) bm (bE _) ?_ bm (abm b r z.toList);have:j<=j*d.size:=uC j x;omega
  |_=>grind
def fm.trans{l aO a}{b i b7}(j:fm l b aO i)(k:fm aO i a b7):fm l b a b7:=by refine⟨λy z A s=>k.mem _ _ _ (j.mem _ _ _ s),λn o L aG h=>?_⟩;obtain⟨w,d,e,g,u⟩:=j.box n o L aG h;obtain⟨x,t,k1,q,r⟩:=k.box n w d e g;exact⟨x,t,k1,q,u.trans r⟩
def rN{a:n α}{d b:α}{e}(g:(a++[d])[e]?=f b):a[e]?=f b∨(e=c a/\b=d):=N
def bd.b2{j}(e:bd l j)(g:cN l b l j)(M:j.t=b.t)(q:bd l b){bY}{L}(aG:ey (l++[bY]) {j with t:=j.t++[L]} bY L)(D:∀i∈L.al,b.a.heap.size<=i/\i<j.a.heap.size):bd (l++[bY]) {j with t:=j.t++[L]}/\cN l b (l++[bY]) {j with t:=j.t++[L]}:=by
 have t:fm l j (l++[bY]) {j with t:=j.t++[L]}:=by refine⟨λ_ _ _ I=>I,λy o h k d=>?_⟩;have x:=(cO.1 d).1;have K:=(cO.1 k).1;exact⟨o,h,by grind,by grind,.refl _ _⟩
 have B:=g.ext.trans t;refine⟨⟨e.mem,by simp[e.len],?_,?_,?_,?_⟩,⟨g.size,g.a6,g.mem,g.bG,?_,B.box,g.os,g.tape,g.output,g.own⟩⟩
 .intro y o h k d;rcases rN k with F|⟨rfl,rfl⟩
  .have x:y<c j.t:=by rw[e.len];grind
   rw[kH x]at d;exact(e.box y o h F d).ck t e.len λ_ _=>⟨a,λ_=>rfl⟩
  rcases rN d with A|⟨_,rfl⟩
  .have:=(cO.1 A).1;rw[e.len]at this;omega
  grind
 .intro y C r s A u i cT n;rcases rN A with k1|⟨rfl,rfl⟩<;>rcases rN u with J|⟨rfl,rfl⟩
  .exact e.a3 y C r s k1 J i cT n
  .have jD:=D i n;have z:=q.lt r N i cT;omega
  .have jD:=D i cT;have z:=q.lt s N i n;omega
  simp
 .intro h d i cT;simp[gl,gY]at d;rcases d with d|rfl
  .exact e.lt h d i cT
  grind
 .intro i cT;refine⟨(e.own i cT).1,λh d w=>?_⟩;simp[gl,gY]at d;rcases d with d|rfl
  .exact(e.own i cT).2 h d w
  have E:=g.own;simp only at cT;rw[E]at cT;have:=(q.own i cT).1;grind
 grind
def bd.cc{ce}(k:bd l b){E ec}{L cp}(U:l[d]?=f E)(I:b.t[d]?=f L)(y:fJ E L ec cp)(T:b.a.heap.size<=bj.heap.size)(R:∀e,e<b.a.heap.size->e∉L.al->bj.heap[e]?=b.a.heap[e]?)(V:∀e,e<b.a.heap.size->e∉L.al->∀r,ce e r=b.E e r)(F:∀e r u,b.E e r=f u->ce e r=f u)(K:∀e r u,ce e r=f u->bj.cell? ⟨e,r,p⟩=f u)(Z:∀e∈cp.al,(e∈L.al∨b.a.heap.size<=e)/\e<bj.heap.size)(D:bj.os=b.a.os)(Q:bj.tape=b.a.tape)(O:bj.output=b.a.output)(aG:ey (l.set d ec) ⟨b.t.set d cp,ce,bj,b.own⟩ ec cp):bd (l.set d ec) ⟨b.t.set d cp,ce,bj,b.own⟩/\cN l b (l.set d ec) ⟨b.t.set d cp,ce,bj,b.own⟩:=by
 have W:=(cO.1 U).1;have Y:=(cO.1 I).1;have x:∀g h,(b.t.set d cp)[g]?=f h->(g=d/\h=cp)∨(g≠d/\b.t[g]?=f h):=N;have s:fm l b (l.set d ec) ⟨b.t.set d cp,ce,bj,b.own⟩:=by
  refine⟨F,λg h w q A=>?_⟩;by_cases C:d=g
  .grind
  exact⟨h,w,by grind,by grind,.refl _ _⟩
 have J:∀g h,g≠d->b.t[g]?=f h->∀e∈h.al,e<b.a.heap.size/\e∉L.al:=by intro g h n q e i;exact⟨k.lt h (ca q) e i,λS=>n (k.a3 g d h L q I e i S)⟩
 refine⟨⟨K,by simp[k.len],?_,?_,?_,?_⟩,⟨T,?_,F,?_,?_,s.box,D,Q,O,a⟩⟩
 .intro g h w q A;rcases x g w A with⟨rfl,rfl⟩|⟨n,A⟩
  .grind
  rw[j_ (λC=>n C.symm)]at q;refine(k.box g h w q A).ck s k.len λe i=>?_;grind
 .intro g X h o q B e i t;rcases x g h q with⟨rfl,rfl⟩|⟨n,z⟩<;>rcases x X o B with⟨rfl,rfl⟩|⟨j,M⟩
  .rfl
  .grind
  .grind
  exact k.a3 g X h o z M e i t
 .intro h q e i;obtain⟨g,n,rfl⟩:=hq q;rcases x g _ (bG n)with⟨rfl,C⟩|⟨j,B⟩
  .grind
  grind
 .intro e i;obtain⟨H,G⟩:=k.own e i;grind
 .grind
 .grind
 grind
def K1{a old bytes}(d:old<a)(b:a*bytes<=140737488355328):¬Builtin.nextslicecap a old*bytes>2 ^ 48:=by have:=growslice_fits d b;omega
section
variable {ad:n (Nat×bv)}(aV:bn P ad){I:aq}{e cd a4:bv}
def ze(d:dR P o e)(y:e.desc=.slice W)(u:dR P I cd)(t:cd.desc=.slice W)(z:dR P W a4)(C:bd l b){w}{cap}(s:j<=cap){k}{g}{a:Nat->n O}(q:Rd b.E k (.C g a4.size 0 a)):
  (Builtin.append_ #[o,I] ty #[.slice w j cap,k]).run P b.a=.ok (.slice w j cap) b.a:=by obtain⟨E,D,B,K⟩:=oV (P:=P) C q;have i:=d.run_underlying (J:=b.a);have h:=u.run_underlying (J:=b.a);rw[y]at i;rw[t]at h;obtain⟨r,F,A,rfl,_⟩:=q.b3;have x:=jF (by simpa using D.len);subst x;cases w<;>simp[Builtin.append_,i,h,z.bk,Builtin.lenOf,s,B,storeCells]
def v5(w:dR P o e)(ae:e.desc=.slice W)(aw:dR P I cd)(av:cd.desc=.slice W)(L:dR P W a4)(ak:bd l b){q}{cap}{aj D}{g:Nat->n O}{k}(B:Rd b.E (.slice q j cap) (.C aj a4.size j V))(C:Rd b.E k (.C D a4.size z g))(ah:cap<j+z)(F:(j+z)*a4.bytes<=140737488355328)(y:a4.bytes≠0):
  ∃A i d,e1 b.E a4.size (j+z) (cf j V g) A/\j+z<=d/\d<=9223372036854775807/\c (A++i)=d*a4.size /\
   (Builtin.append_ #[o,I] ty #[.slice q j cap,k]).run P b.a=.ok (.slice (f ⟨b.a.heap.size,0,p⟩) (j+z) d) (b.a.drew.alloc (.cells (A++i).toArray W)):=by
 have ab:bd l {b with a:=b.a.drew}:=ak.same rfl;obtain⟨s,M,t,ar⟩:=oV (P:=P) ab (aa:=k) C;obtain⟨r,X,u,U⟩:=oV (P:=P) ab (aa:=.slice q j cap) B;have R:=w.run_underlying (J:=b.a);have S:=aw.run_underlying (J:=b.a);rw[ae]at R;rw[av]at S;obtain⟨Y,E,K,ax,az,ai,ag,aA,aC⟩:=L.dc;have T:=fM (uC _ (Nat.pos_of_ne_zero y)) F;have H:E.cells.size=a4.size:=by have:=eN List.length ag;grind
 refine⟨r++s,(Builtin.zeroCells E.cells (grownCap b.a (j+z) cap W-(j+z))).toList,grownCap b.a (j+z) cap W,X.append M,grownCap_ge _ _ _ _,?_,?_,?_⟩
 .have:=grownCap_le_maxLen b.a (j+z) cap W (by unfold maxLen;omega);unfold maxLen at this;omega
 .have aP:=grownCap_ge b.a (j+z) cap W;simp[dm,X.len,M.len,nd,size_zeroCells,H,<-jH];grind
 .have aD:=K1 ah F;have au:¬Builtin.nextslicecap (j+z) cap*Y.bytes>2 ^ 48:=N;have aq:¬j+z<=cap:=x;have Q:¬((j+z:Nat):Int)>IntKind.i64.max:=bw;have G:∀h,(typeInfo W).run P h=.ok Y h:=λh=>by simp[typeInfo,K]
  have ad:∀h,(zeroValue W).run P h=.ok E h:=λh=>by simp[zeroValue,typeInfo,K,ai]
  have ao:(Builtin.lenOf k).run P b.a=.ok z b.a:=by rw[ar];rfl
  replace t:(Builtin.firstCells a4.size z k).run P b.a.drew=.ok s.toArray b.a.drew:=t;replace u:(Builtin.firstCells a4.size j (.slice q j cap)).run P b.a.drew=.ok r.toArray b.a.drew:=u
  unfold Builtin.append_;simp only[j9,nc,oa,cI,R,S,c7,L.bk,d_,ka,dh,ao,aq,
   Q,false_and,G,au,run_choose,Question.forced,run_askRoom,sK,World.drew_eq,u,t,hH,dH,ad]
  simp[Go.newRow,grownCap];have an:∀a:Array Z,(r++s).toArray++a=(r++(s++a.toList)).toArray:=λa=>by grind
  rw[an];rfl
def Ei(g:dR P o e)(F:e.desc=.slice W)(E:dR P I cd)(D:cd.desc=.slice W)(K:dR P W a4)(A:bd l b){cap}{w}{r}(M:b.a.heap[i]?=f (.cells r.toArray w (0,0)))(C:c r=cap*a4.size){q}{a:Nat->n O}{k}(y:Rd b.E k (.C q a4.size z a))(u:j+z<=cap):
  ∃d,e1 b.E a4.size z a d/\(Builtin.append_ #[o,I] ty #[.slice (f ⟨i,0,p⟩) j cap,k]).run P b.a=.ok (.slice (f ⟨i,0,p⟩) (j+z) cap) (b.a.setRow i (r.take (j*a4.size)++d++r.drop (j*a4.size+c d)).toArray):=by
 obtain⟨d,h,Q,R⟩:=oV (P:=P) A y;have x:=g.run_underlying (J:=b.a);have s:=E.run_underlying (J:=b.a);rw[F]at x;rw[D]at s;have S:j*a4.size+c d<=c r:=by rw[h.len,C,<-jH];exact gX _ u
 have t:=run_storeCells_at P i (j*a4.size) w d 0 r.toArray b.a M N h.cell;simp[kf]at t;have B:(Builtin.lenOf k).run P b.a=.ok z b.a:=ds;refine⟨d,h,?_⟩;unfold Builtin.append_;simp[j9,nc,oa,cI,x,s,c7,K.bk,d_,ka,dh,B,u,dH,hH,Q,gQ,cV,t]
end
def DH{d:Sem α}{b}{V}{a}(e:a∈d.events P b V):a∈V∨a∈d.events P b #[]:=by grind[Sem.events_acc]
def L4(e:a5)(d:aT):Prop:=∃a b g,d=pH a b/\e.E a b=f g
def s7(I:bd l b){o}{h}(z:Rd b.E aa (.C o h j V)){J}(E:J.heap=b.a.heap):
  ∀t∈(Builtin.firstCells h j aa).events P J #[],L4 b t:=by
 obtain⟨C,w,A,rfl,S,R,N,B,F⟩:=z.b3;have O:=B.len;intro t i;cases C with
 |none=>simp[Builtin.firstCells]at i
 |some r=>
  simp[Builtin.firstCells]at i;have s:∀e,e<j*h->∃g d k,r=⟨g,d,p⟩/\b.E g (d+e)=f k:=by intro e n;obtain⟨g,d,y,q⟩:=F e (A[e]'x) (bG x);grind
  by_cases K:j*h=0
  .rw[K]at i;simp[loadCells,loadCellsFrom]at i
  obtain⟨g,d,_,rfl,_⟩:=s 0 x;have Q:∀e,e<j*h->∃aa,J.cell? ⟨g,d+e,p⟩=f aa:=by intro e n;obtain⟨M,D,k,u,q⟩:=s e n;cases u;have:=I.mem _ _ _ q;exact⟨k,by simp[aM,E]at this⊢;omega⟩
  rcases I' (P:=P) Q t i with z|⟨e,n,rfl⟩
  .grind
  obtain⟨M,D,k,u,q⟩:=s e n;cases u;exact⟨_,_,k,a,q⟩
theorem tF{a}(e:L4 b a):h5 b a:=by obtain⟨g,h,i,rfl,d⟩:=e;exact IK d
section
variable {I:aq}{e cd a4:bv}
def ya(g:dR P o e)(D:e.desc=.slice W)(z:dR P I cd)(y:cd.desc=.slice W)(E:dR P W a4)(s:bd l b){q}{cap}(w:j<=cap){k}{i}{d:Nat->n O}(h:Rd b.E k (.C i a4.size 0 d)):
  du b ((Builtin.append_ #[o,I] ty #[.slice q j cap,k]).events P b.a #[]):=by obtain⟨N,M,F,R⟩:=oV (P:=P) s h;have C:=s7 (P:=P) s h (J:=b.a) a;have t:=g.run_underlying (J:=b.a);have r:=z.run_underlying (J:=b.a);rw[D]at t;rw[y]at r;obtain⟨u,Q,A,rfl,_⟩:=h.b3;have B:=jF (by simpa using M.len);subst B;intro x K;refine tF (C x ?_);cases q<;>simpa[Builtin.append_,t,r,E.bk,Builtin.lenOf,w,F,storeCells]using K
def vb(A:dR P o e)(aj:e.desc=.slice W)(G:dR P I cd)(y:cd.desc=.slice W)(M:dR P W a4)(t:bd l b){i}{cap}{B C}{r:Nat->n O}{k}(T:Rd b.E (.slice i j cap) (.C B a4.size j V))(S:Rd b.E k (.C C a4.size z r))(ak:cap<j+z)(K:(j+z)*a4.bytes<=140737488355328)(ah:a4.bytes≠0):
  du b ((Builtin.append_ #[o,I] ty #[.slice i j cap,k]).events P b.a #[]):=by
 have F:bd l {b with a:=b.a.drew}:=t.same rfl;obtain⟨az,aq,s,U⟩:=oV (P:=P) F (aa:=k) S;obtain⟨av,X,u,ab⟩:=oV (P:=P) F (aa:=.slice i j cap) T;have Y:=s7 (P:=P) t S (J:=b.a.drew) a;have aI:=s7 (P:=P) t T (J:=b.a.drew) a;have R:=A.run_underlying (J:=b.a);have ae:=G.run_underlying (J:=b.a);rw[aj]at R;rw[y]at ae;obtain⟨w,aA,aP,aC,aD,E,aE,aG,aH⟩:=M.dc;have Z:=fM (uC _ (Nat.pos_of_ne_zero ah)) K;have ad:=K1 ak K;have Q:¬Builtin.nextslicecap (j+z) cap*w.bytes>2 ^ 48:=N;have aw:¬j+z<=cap:=x;have H:¬((j+z:Nat):Int)>IntKind.i64.max:=bw;have ai:∀g,(typeInfo W).run P g=.ok w g:=λg=>by simp[typeInfo,aP]
 have L:∀g,(zeroValue W).run P g=.ok aA g:=λg=>by simp[zeroValue,typeInfo,aP,E]
 have an:(Builtin.lenOf k).run P b.a=.ok z b.a:=by rw[U];rfl
 have ar:(Builtin.lenOf k).events P b.a #[]=#[]:=by rw[U];rfl
 replace s:(Builtin.firstCells a4.size z k).run P b.a.drew=.ok az.toArray b.a.drew:=s;replace u:(Builtin.firstCells a4.size j (.slice i j cap)).run P b.a.drew=.ok av.toArray b.a.drew:=u
 intro q h;unfold Builtin.append_ at h;simp only[j9,nc,oa,aF,cI,R,ae,c7,aK,M.bk,d_,ka,dh,an,ar,aw,
  H,false_and,ai,Q,run_choose,Question.forced,run_askRoom,sK,Sem.events_ite,World.drew_eq,u,s,hH,dH,L,events_underlying,events_sizeOf,events_typeInfo,events_choose,events_zeroValue,Sem.events_pure]at h
 have ag:∀(k:Nat) (J:au) (q:aT),q∈(askRoom k).events P J #[]->q=⟨.mark .noRoom,v,m⟩:=by intro k J q ao;unfold askRoom at ao;simp_all
 rw[dC.newRow (P:=P)]at h;generalize(Go.newRow W _).run P b.a.drew=ax at h;have d:q∈(Builtin.firstCells a4.size z k).events P b.a.drew ((Builtin.firstCells a4.size j (.slice i j cap)).events P b.a.drew ((askRoom ((Question.appendCap (j+z) cap W).cut (b.a.tape b.a.drawn (Question.appendCap (j+z) cap W))*w.bytes)).events P b.a.drew #[])):=by
  cases ax with
  |ok aa D=>simpa using h
  |halt aa D=>simpa using h
 rcases DH d with d|d
 .rcases DH d with d|d
  .rw[ag _ _ _ d];exact .inl a
  grind[tF]
 grind[tF]
def Cu(h:dR P o e)(A:e.desc=.slice W)(M:dR P I cd)(K:cd.desc=.slice W)(B:dR P W a4)(G:bd l b){cap}{Q}{d}(y:b.a.heap[i]?=f (.cells d.toArray Q (0,0)))(F:c d=cap*a4.size){se}{dK:Nat->n O}{k}(s:Rd b.E k (.C se a4.size z dK))(x:j+z<=cap){L}(Y:L∈b.t)(U:i∈L.al)(ab:∀w,j*a4.size<=w->b.E i w=p):
  du b ((Builtin.append_ #[o,I] ty #[.slice (f ⟨i,0,p⟩) j cap,k]).events P b.a #[]):=by
 obtain⟨g,q,aP,R⟩:=oV (P:=P) G s;have T:=s7 (P:=P) G s (J:=b.a) a;have H:=h.run_underlying (J:=b.a);have t:=M.run_underlying (J:=b.a);rw[A]at H;rw[K]at t;have S:j*a4.size+c g<=c d:=by rw[q.len,F,<-jH];exact gX _ x
 have u:=run_storeCells_at P i (j*a4.size) Q g 0 d.toArray b.a y N q.cell;simp[kf]at u;have D:(Builtin.lenOf k).run P b.a=.ok z b.a:=ds;have E:(Builtin.lenOf k).events P b.a #[]=#[]:=ds
 intro C r;unfold Builtin.append_ at r;simp[j9,nc,oa,aF,cI,H,t,aK,B.bk,d_,ka,dh,D,E,x,dH,hH,aP,gQ,cV,u,
  sK,Sem.events_ite,events_underlying,events_sizeOf,Sem.events_pure]at r
 rcases nn g 0 d.toArray b.a _ y N q.cell C r with Z|⟨aa,X,V,rfl⟩
 .grind [tF]
 grind[ow]
end
structure j6(P:aI)(s:ap)(k X:aA)(W:aq)(a4:bv):Prop where
 op:∃o I e cd,s.op=.call {callee:=.builtin .append,args:=#[k,X],argTypes:=#[o,I]}/\dR P o e/\e.desc=.slice W/\dR P I cd/\cd.desc=.slice W
 elem:dR P W a4
 bytes:a4.bytes≠0
 size:a4.size≠0
def a5.dD(a:a5)(h:aq)(A b:n Z)(d:n Loc):a5:=
 {t:=d,E:=λe g=>if e=a.a.heap.size then A[g]? else a.E e g,a:=a.a.drew.alloc (.cells (A++b).toArray h),own:=a.own}
def J2(j:bd l b)(W)(A a:n Z):∀d e h,(if d=b.a.heap.size then A[e]? else b.E d e)=f h->(b.a.drew.alloc (.cells (A++a).toArray W)).cell? ⟨d,e,p⟩=f h:=by
 intro d e h g;by_cases i:d=b.a.heap.size
 .subst i;simp[dH]at g;unfold aM;have:(b.a.drew.alloc (.cells (A++a).toArray W)).heap[b.a.heap.size]?=f (.cells (A++a).toArray W):=lZ b.a.drew _;grind
 simp[i,dh]at g;have k:=j.block g;rw[<-j.mem d e h g];unfold aM;have:(b.a.drew.alloc (.cells (A++a).toArray W)).heap[d]?=b.a.heap[d]?:=iR b.a.drew _ k;grind
def J3(h:bd l b)(A:n Z):∀a d e,b.E a d=f e->(if a=b.a.heap.size then A[d]? else b.E a d)=f e:=by intro a d e g;have:=h.block g;grind
theorem jm{z}(a:du b (z.events P b.a #[])):du b ((do pure (.value (<-z)):Sem Next).events P b.a #[]):=ds
theorem lj{I}(t:s.op=.call {callee:=.builtin .append,args:=#[k,X],argTypes:=#[o,I]})(a:aA->Z):
  ac a s=(do pure (.value (<-Builtin.append_ #[o,I] s.type #[a k,a X]))):=RT
def Rd.eo{o}{h}(q:Rd bD aa (.C o h j V)):Rd bD aa (.C v h j V):=by
 cases q with
 |C l a n k d r e b g i=>exact .C l a n k d E e b g i
def Rd.cE{o}{h}{dK:Nat->n O}(z:∀b,b<j->V b=dK b)(x:Rd bD aa (.C o h j V)):Rd bD aa (.C o h j dK):=by
 cases x with
 |C u d w t i r y g l q=>exact .C u d w t i r (λb a=>by grind) g (λb a s e k=>l b a s e N) (λb a s e k=>q b a s e N)
def Rd.fX{h gb}(a:h=gb∨j=0)(d:Rd bD aa (.C m h j V)):Rd bD aa (.C m gb j V):=by
 rcases a with rfl|rfl
 .exact d
 obtain⟨e,b,A,i,k,g,l,_⟩:=d.b3;grind[Rd.dL]
def tE{h}{L}(aG:l[d]?=f (.w W h j V))(n:b.t[d]?=f L)(e:ey l b (.w W h j V) L):cx l b L.v (.w d h j V):=by refine⟨e.1,(cO.1 aG).1,λo i k a g=>?_⟩;grind
def a0.gf{e:bv}(t:j6 P s k X W e){aa:Nat}{Y:Bool}{dK:Nat->n O}(an:η k=aw (.C m aa j V))(S:aa=e.size∨j=0)(ak:∀d K,bx l d K (η X)->Rd d.E K (.C Y e.size z dK))(g:(j+z)*e.bytes<=140737488355328)(aq:j=0∨0<z):
  a0 P s η l (.p (.R (.w (c l) e.size (j+z) (cf j V dK)))) (l++[.w W e.size (j+z) (cf j V dK)]):=by
 intro d av bQ F;obtain⟨aC,az,ar,au,u,h,G,J,I⟩:=t.op;have C:=F k;rw[an]at C;have q:=Rd.fX S (b8 C);have o:=ak d _ (F X);obtain⟨w,b,A,ao,ab,aP,ah,ax,D⟩:=q.b3;have H:b=j:=ah a;subst H;rw[lj u];rw[ao]at q⊢;by_cases ai:z=0
 .subst ai;have U:=ze (P:=P) (ty:=s.type) h G J I t.elem bQ (w:=w) ab o;simp only[kf];have q:=Rd.cE (dK:=cf b V dK) (λar h=>by grind) q;have aG:ey (l++[.w W e.size b (cf b V dK)]) {d with t:=d.t++[⟨.slice w b b,[]⟩]} (.w W e.size b (cf b V dK)) ⟨.slice w b b,[]⟩:=⟨q.eo,.inl ⟨⟨rfl,by omega⟩,q⟩⟩
  obtain⟨R,N⟩:=bQ.b2 (.refl _ _) rfl bQ aG E;refine⟨.value (.slice w b b),_,?_,?_,R,N,jm (ya h G J I t.elem bQ ab o)⟩
  .simp[U]
  exact tE E uh aG
 have Z:b<b+z:=x;obtain⟨r,Q,B,y,ae,L,ad,U⟩:=v5 (P:=P) (ty:=s.type) h G J I t.elem bQ q o Z g t.bytes;have M:bd l (d.dD W r Q d.t)/\cN l d l (d.dD W r Q d.t):=
  bQ.cX E (λi g=>iR d.a.drew _ g) (λi g s=>by grind)
   (λi g s K D=>J2 bQ W r Q i s K D) a a a
 have ag:Rd (d.dD W r Q d.t).E (.slice (f ⟨d.a.heap.size,0,p⟩) (b+z) B) (.C v e.size (b+z) (cf b V dK)):=
  Rd.eJ (y.mono M.2.mem) (i:=d.a.heap.size) (off:=0) bm ae L E (λaA aD aj=>by simpa[a5.dD]using aj)
 have aG:ey (l++[.w W e.size (b+z) (cf b V dK)]) {(d.dD W r Q d.t)with t:=(d.dD W r Q d.t).t++[⟨.slice (f ⟨d.a.heap.size,0,p⟩) (b+z) B,[d.a.heap.size]⟩]} (.w W e.size (b+z) (cf b V dK)) ⟨.slice (f ⟨d.a.heap.size,0,p⟩) (b+z) B,[d.a.heap.size]⟩:=by
  refine⟨ag,.inr ⟨d.a.heap.size,B,r++Q,a,lZ d.a.drew _,ad,λs u=>?_⟩⟩;have T:c r<=s:=by rw[y.len];exact u
  simp[a5.dD,w' T]
 obtain⟨R,N⟩:=M.1.b2 M.2 rfl bQ aG (λi g=>by simp at g;subst g;refine⟨bE _,?_⟩;simp[a5.dD]);refine⟨.value (.slice (f ⟨d.a.heap.size,0,p⟩) (b+z) B),_,?_,?_,R,N,jm (vb h G J I t.elem bQ q o Z g t.bytes)⟩
 .simp[U];rfl
 exact tE E (by simp[a5.dD,<-bQ.len]) aG
def a0.ie{a4}(C:j6 P s k X W a4){aS}{g:Nat->n O}(aQ:η k=.p (.R (.w d a4.size j V)))(t:l[d]?=f (.w W a4.size j V))(aR:∀o T,bx l o T (η X)->Rd o.E T (.C aS a4.size z g))(q:(j+z)*a4.bytes<=140737488355328):
  a0 P s η l (.p (.R (.w d a4.size (j+z) (cf j V g)))) (l.set d (.w W a4.size (j+z) (cf j V g))):=by
 intro o bd b aq;obtain⟨bg,bf,ar,bc,B,r,ab,G,y⟩:=C.op;have aL:d<c l:=(cO.1 t).1;have ae:=aq k;rw[aQ]at ae;obtain⟨aw,_,ag⟩:=ae;obtain⟨L,K,bb⟩:=(ag _ _ _ _ t).2 rfl;have u:=aR o _ (aq X);have aK:d<c o.t:=(cO.1 K).1;have H:=b.box d _ L t K;obtain⟨w,e,A,S,aP,aj,ba,ah,a'⟩:=aw.b3;rw[lj B,S];rw[S]at aw;have ax:L.v=.slice w j e:=N;by_cases aH:z=0
 .subst aH;have av:=ze (P:=P) (ty:=s.type) r ab G y C.elem b (w:=w) aP u;simp only[kf];have ai:∀ar,ar<j->V ar=cf j V g ar:=λar r=>by simp[cf,r]
  have R:ey (l.set d (.w W a4.size j (cf j V g))) ⟨o.t.set d L,o.E,o.a,o.own⟩ (.w W a4.size j (cf j V g)) L:=by
   refine⟨H.1.cE ai,?_⟩;rcases H.2 with⟨J,aI⟩|J
   .exact .inl ⟨J,aI.cE ai⟩
   grind
  have I:=b.cc (ce:=o.E) (bj:=o.a) (ec:=.w W a4.size j (cf j V g)) (cp:=L) t K ⟨λ_=>rfl,bE _⟩ (bE _) (λ_ _ _=>rfl) (λ_ _ _ _=>rfl) (λ_ _ _ C=>C) b.mem
   (λi q=>⟨.inl q,b.lt L (ca K) i q⟩) a a a R
  refine⟨.value (.slice w j e),_,?_,?_,I.1,I.2,jm (ya r ab G y C.elem b aP u)⟩
  .simp[av]
  rw[<-ax];exact tE (W:=W) N N R
 .have F:¬(j+z=j):=x;by_cases aA:j+z<=e
  .rcases H.2 with⟨aX,aT⟩|⟨i,aG,h,rfl,hw,aE,bq⟩
   .rw[ax]at aT;obtain⟨_,_,_,az,_,_,a6,_⟩:=aT.b3;grind
   .simp only at ax;cases ax;obtain⟨D,M,av⟩:=Ei (P:=P) (ty:=s.type) r ab G y C.elem b hw aE u aA;have a3:c D=z*a4.size:=M.len;have aJ:i<o.a.heap.size:=(je.1 hw).1;let ce:Mem:=λQ s=>if Q=i/\j*a4.size<=s/\s<(j+z)*a4.size then D[s-j*a4.size]? else o.E Q s;have aZ:c h=e*a4.size:=aE;have a5:(j+z)*a4.size=j*a4.size+z*a4.size:=jH _ _ _;have a2:(j+z)*a4.size<=e*a4.size:=gX _ aA;have aV:∀Q s T,o.E Q s=f T->ce Q s=f T:=N;have aO:∀aC aD,D[aC]?=f aD->ce i (j*a4.size+aC)=f aD:=N;have aF:Rd ce (.slice (f ⟨i,0,p⟩) (j+z) e) (.C v a4.size (j+z) (cf j V g)):=by refine Rd.eJ (A:=A++D) ((ah.append M).mono aV) (i:=i) (off:=0) bm aA aj E (λaC aD aN=>?_);have a7:c A=j*a4.size:=ah.len;grind
    have I:=b.cc (ce:=ce) (bj:=o.a.setRow i (h.take (j*a4.size)++D++h.drop (j*a4.size+c D)).toArray) (ec:=.w W a4.size (j+z) (cf j V g)) (cp:=⟨.slice (f ⟨i,0,p⟩) (j+z) e,[i]⟩) t K
     ⟨λaz=>absurd az F,by omega⟩ E (λQ _ ad=>setRow_other _ _ _ _ N) (λQ _ ad s=>by grind) aV ?_ (λQ ad=>by simp at ad;exact bw) a a a ?_
    .refine⟨.value (.slice (f ⟨i,0,p⟩) (j+z) e),_,?_,?_,I.1,I.2,jm (Cu r ab G y C.elem b hw aE u aA (ca K) E bq)⟩
     .simp[av]
     exact tE (L:=⟨.slice (f ⟨i,0,p⟩) (j+z) e,[i]⟩) (W:=W) N N (I.1.box d _ _ N N)
    .intro Q s T aa;by_cases ad:Q=i
     .subst ad;have a9:∀a8,(o.a.setRow Q (h.take (j*a4.size)++D++h.drop (j*a4.size+c D)).toArray).cell? ⟨Q,a8,p⟩=(h.take (j*a4.size)++D++h.drop (j*a4.size+c D))[a8]?:=by grind[cell_setRow_same]
      rw[a9];simp only[ce]at aa;have a1:c (h.take (j*a4.size))=j*a4.size:=by rw[List.length_take];omega
      split at aa
      .grind
      rename_i a_;have J:=b.mem Q s T aa;have B:s<j*a4.size:=N;rw[mt,kH x,iq,br B];simp only[aM,hw]at J;grind
     simp only[ce]at aa;rw[bl x]at aa;rw[<-b.mem Q s T aa];exact Qo
    refine⟨aF,.inr ⟨i,e,_,a,setRow_heap _ _ _ _ _ _ hw,N,λs B=>?_⟩⟩;grind
  .have ak:e<j+z:=x;obtain⟨U,Z,au,aU,an,ao,Y,av⟩:=v5 (P:=P) (ty:=s.type) r ab G y C.elem b aw u ak q C.bytes;have aW:∀i∈L.al,i<o.a.heap.size:=b.lt L (ca K);have aF:Rd (λi s=>if i=o.a.heap.size then U[s]? else o.E i s) (.slice (f ⟨o.a.heap.size,0,p⟩) (j+z) au) (.C v a4.size (j+z) (cf j V g)):=
    Rd.eJ (aU.mono (J3 b U)) (i:=o.a.heap.size) (off:=0) bm an ao E (λaC aD aN=>by grind)
   have I:=b.cc (ce:=λi s=>if i=o.a.heap.size then U[s]? else o.E i s) (bj:=o.a.drew.alloc (.cells (U++Z).toArray W)) (ec:=.w W a4.size (j+z) (cf j V g)) (cp:=⟨.slice (f ⟨o.a.heap.size,0,p⟩) (j+z) au,[o.a.heap.size]⟩) t K
    ⟨λaz=>absurd az F,by omega⟩ E (λi q _=>iR o.a.drew _ q) (λi q _ s=>by grind) (J3 b U) (J2 b W U Z) (λi q=>by
     simp at q;exact bw) a a a ⟨aF,.inr ⟨o.a.heap.size,au,U++Z,a,lZ o.a.drew _,Y,λs B=>by
      have t:c U<=s:=by rw[aU.len];exact B
      grind⟩⟩
   refine⟨.value (.slice (f ⟨o.a.heap.size,0,p⟩) (j+z) au),_,?_,?_,I.1,I.2,jm (vb r ab G y C.elem b aw u ak q C.bytes)⟩
   .simp[av]
   exact tE (L:=⟨.slice (f ⟨o.a.heap.size,0,p⟩) (j+z) au,[o.a.heap.size]⟩) (W:=W) N N (I.1.box d _ _ N N)
def dy{a:Type}:n Nat->n a->Option (n a)
  |[],_=>f []
  |e::b,d=>match c9 e d with
    |some h=>match dy b d with
      |some g=>f (h::g)
      |none=>p
    |none=>p
def ln{d:Type}:∀a (e:n d),c9 a e=e[a]?
  |_,[]=>by simp[c9]
  |0,g::_=>by simp[c9]
  |a+1,_::b=>by simpa[c9]using ln a b
def l_{i:Type}:∀{a:n Nat} {b e:n i},dy a b=f e->c e=c a/\∀(k g:Nat),a[k]?=f g->∃h,e[k]?=f h/\b[g]?=f h
  |[],b,e,d=>by cases d;simp
  |g::a,b,e,d=>by
    simp[dy]at d;cases l:c9 g b with
    |none=>grind
    |some h=>
      cases j:dy a b with
      |none=>grind
      |some r=>
        simp[l,j]at d;subst d;obtain⟨o,q⟩:=l_ j;grind[er]
def v9{i l:Type}:∀{a:n Nat} {d h:n i} {kR:n l},dy a d=f h->c kR=c d->∃b,dy a kR=f b
  |[],d,h,kR,_,_=>⟨[],rfl⟩
  |g::a,d,h,kR,r,j=>by
    simp[dy]at r;cases q:c9 g d with
    |none=>grind
    |some t=>
      cases o:dy a d with
      |none=>grind
      |some s=>
        obtain⟨b,k⟩:=v9 (kR:=kR) o j;have e:g<c kR:=by rw[j];exact(cO.1 (er q)).1
        exact⟨kR[g]::b,by simp[dy,ln,e,k]⟩
def kv(a:n Nat):Q->Q
  |.ptr d i=>match c9 d a with|some b=>.ptr b i|none=>.any
  |.w d b g e=>match c9 d a with|some h=>.w h b g e|none=>.c (.C v b g e)
  |.aV d=>match c9 d a with|some b=>.aV b|none=>.any
  |.S d j=>match c9 d a with|some b=>.S b j|none=>.any
  |.c k=>.c k
  |.any=>.any
def qU(a:n Nat):n Q->n Q
  |[]=>[]
  |b::d=>kv a b::qU a d
def pI(a:n Nat):E1->E1
  |.R d=>.R (kv a d)
  |.agg b=>.agg (qU a b)
def tG(a:n Nat):n E1->n E1
  |[]=>[]
  |b::d=>pI a b::tG a d
def e'(a:n Nat):y->y
  |.p d=>.p (pI a d)
  |.ae b=>.ae (tG a b)
  |.any=>.any
def gr(a:n Nat):n y->n y
  |[]=>[]
  |b::d=>e' a b::gr a d
def D2:Q->Bool
  |.c _|.any=>m
  |_=>v
def y8:n Q->Bool
  |[]=>m
  |a::b=>match D2 a with|true=>y8 b|false=>v
def vV:an->Bool
  |.cells _ a=>y8 a
  |.loop ..=>v
  |_=>m
def ew:n an->Bool
  |[]=>m
  |a::b=>match vV a with|true=>ew b|false=>v
def vW:∀{e:n an},ew e=m->∀a∈e,vV a=m
  |[],_,a,aG=>by grind
  |g::h,b,a,aG=>by
    simp[ew]at b;cases d:vV g with
    |false=>grind
    |true=>
      simp[d]at b;rcases fr.1 aG with rfl|aG
      · exact d
      · exact vW b a aG
def bO.plain{l ao}{b az}(j:az.E=b.E):∀{A:n Z} {a:n Q},y8 a=m->bO l b A a->bO ao az A a
  |[],[],_,_=>trivial
  |[],_::_,_,d=>d.elim
  |_::_,[],_,d=>d.elim
  |k::A,g::i,e,d=>by
    simp[y8]at e;cases h:D2 g with
    |false=>grind
    |true=>
      simp[h]at e;refine⟨?_,bO.plain j e d.2⟩;cases g with
      |c o=>have:=d.1;simp[cx]at this⊢;grind
      |any=>exact d.1
      |_=>simp[D2]at h
def ey.plain{l ao}{b az}(d:az.E=b.E)(g:az.a=b.a){e}{L}(k:vV e=m)(a:ey l b e L):ey ao az e L:=by
  cases e with
  |cells j o=>
    obtain⟨n,A,i,r,q,x⟩:=a;exact⟨n,A,i,by grind,q.plain d k,λy=>by simp_all⟩
  |w j s t h=>simp[ey,d,g]at a⊢;exact a
  |J H=>simp[ey,d,g]at a⊢;exact a
  |M=>trivial
  |loop w u z=>simp[vV]at k
  |bo=>simp[ey,d,g]at a⊢;exact a
  |q j s t h=>simp[ey,d,g]at a⊢;exact a
def ei:Nat->n Nat->Bool
  |_,[]=>v
  |a,d::b=>match af a d with|true=>m|false=>ei a b
def e_:n Nat->Bool
  |[]=>m
  |b::a=>match ei b a with|true=>v|false=>e_ a
theorem vE:∀{a:Nat} {d:n Nat},a∈d->ei a d=m
  |a,[],b=>by grind
  |a,e::h,b=>by
    simp[ei];cases g:af a e with
    |true=>rfl
    |false=>
      rcases fr.1 b with rfl|b
      · grind[Nat.beq_refl]
      · exact vE b
def K5:∀{h:n Nat},e_ h=m->∀(b d e:Nat),h[b]?=f e->h[d]?=f e->b=d
  |[],_,b,d,e,a,_=>by grind
  |l::k,g,b,d,e,a,i=>by
    simp[e_]at g;cases o:ei l k with
    |true=>grind
    |false=>
      simp[o]at g;have r:∀j,k[j]?=f l->False:=λj q=>by have:=vE (ca q);grind
      cases b with
      |zero=>
        grind
      |succ b=>
        cases d with
        |zero=>
          grind
        |succ d=>
          simp at a i;rw[K5 g b d e a i]
def l2(a:Nat):Q->Bool
  |.ptr d _|.w d _ _ _|.aV d|.S d _=>ay (d+1) a
  |_=>m
def lp(a:Nat):n Q->Bool
  |[]=>m
  |b::d=>match l2 a b with|true=>lp a d|false=>v
def px(b:Nat):E1->Bool
  |.R d=>l2 b d
  |.agg a=>lp b a
def oH(a:Nat):n E1->Bool
  |[]=>m
  |b::d=>match px a b with|true=>oH a d|false=>v
def hN(b:Nat):y->Bool
  |.p d=>px b d
  |.ae a=>oH b a
  |.any=>m
def g7(a:Nat):n y->Bool
  |[]=>m
  |b::d=>match hN a b with|true=>g7 a d|false=>v
section sub
variable {lD:n Loc}
def cx.sub(M:dy aS l=f ao)(Q:dy aS b.t=f lD){k}(I:cx l b aa (kv aS k))(n:l2 (c aS) k=m):cx ao {b with t:=lD} aa k:=by
  obtain⟨T,q⟩:=l_ M;obtain⟨O,o⟩:=l_ Q;cases k with
  |c s=>exact I
  |any=>exact I
  |ptr g R=>
    have a:g<c aS:=fe n;simp[kv,ln,bG a]at I;obtain⟨d,L,D,e,h,y⟩:=I;obtain⟨s,r,z⟩:=q g _ (bG a);obtain⟨A,j,i⟩:=o g _ (bG a);rw[i]at e;cases e;exact⟨λt x=>d t N,L,D,j,h,y⟩
  |w g E J u=>
    have a:g<c aS:=fe n;simp[kv,ln,bG a]at I;obtain⟨d,e,h⟩:=I;obtain⟨s,r,z⟩:=q g _ (bG a);obtain⟨A,j,i⟩:=o g _ (bG a);refine⟨d,by grind,λC F K B x=>?_⟩;grind
  |aV g=>
    have a:g<c aS:=fe n;simp[kv,ln,bG a]at I;obtain⟨d,L,e,h,y⟩:=I;obtain⟨s,r,z⟩:=q g _ (bG a);obtain⟨A,j,i⟩:=o g _ (bG a);rw[i]at e;cases e;exact⟨λt x=>d t N,L,j,h,y⟩
  |S g S=>
    have a:g<c aS:=fe n;simp[kv,ln,bG a]at I;obtain⟨w,d,e,h⟩:=I;obtain⟨s,r,z⟩:=q g _ (bG a);obtain⟨A,j,i⟩:=o g _ (bG a);refine⟨w,d,(cO.1 r).1,λC E J u x=>?_⟩;grind
def cx.cN{fb}{b7}(J:b7.E=b.E)(t:∀(r:Nat) s,l[r]?=f s->∃g,aS[r]?=f g/\fb[g]?=f s)(C:∀(r:Nat) L,b.t[r]?=f L->∃g,aS[r]?=f g/\b7.t[g]?=f L)(O:c b.t=c l){u}(k:cx l b aa u):cx fb b7 aa (kv aS u):=by
  cases u with
  |c R=>simp[kv,cx,J];exact k
  |any=>exact k
  |ptr d M=>
    obtain⟨e,L,E,a,q,B⟩:=k;obtain⟨g,k1,w⟩:=C d L a;have h:d<c l:=N;obtain⟨i,n,I⟩:=t d _ (bG h);rw[k1]at n;cases n;simp[kv,ln,k1];refine⟨λs A=>?_,L,E,w,q,B⟩;grind
  |w d g K F=>
    obtain⟨e,a,q⟩:=k;obtain⟨k1,y,j⟩:=t d _ (bG a);simp[kv,ln,y];refine⟨by grind,(cO.1 j).1,λD i z o A=>?_⟩;grind
  |aV d=>
    obtain⟨e,L,a,q,B⟩:=k;obtain⟨g,k1,w⟩:=C d L a;have h:d<c l:=N;obtain⟨i,n,I⟩:=t d _ (bG h);rw[k1]at n;cases n;simp[kv,ln,k1];refine⟨λs A=>?_,L,w,q,B⟩;grind
  |S d Q=>
    obtain⟨x,e,a,q⟩:=k;obtain⟨k1,y,j⟩:=t d _ (bG a);simp[kv,ln,y];refine⟨x,e,(cO.1 j).1,λD i z o A=>?_⟩;grind
def bO.sub(e:dy aS l=f ao)(g:dy aS b.t=f lD):∀{A:n Z} {a:n Q},bO l b A (qU aS a)->lp (c aS) a=m->bO ao {b with t:=lD} A a
  |[],[],_,_=>trivial
  |[],_::_,d,_=>d.elim
  |_::_,[],d,_=>d.elim
  |k::A,i::j,d,I=>by
    simp[lp]at I;cases h:l2 (c aS) i with
    |false=>grind
    |true=>simp[h]at I;exact⟨d.1.sub e g h,bO.sub e g d.2 I⟩
def ez.sub(e:dy aS l=f ao)(g:dy aS b.t=f lD){aa}{k}(h:ez l b aa (pI aS k))(I:px (c aS) k=m):ez ao {b with t:=lD} aa k:=by
  cases k with
  |R j=>exact cx.sub e g h I
  |agg i=>obtain⟨A,a,d⟩:=h;exact⟨A,a,d.sub e g I⟩
def eV.sub(e:dy aS l=f ao)(g:dy aS b.t=f lD):∀{A:n Z} {a:n E1},eV l b A (tG aS a)->oH (c aS) a=m->eV ao {b with t:=lD} A a
  |[],[],_,_=>trivial
  |[],_::_,d,_=>d.elim
  |_::_,[],d,_=>d.elim
  |k::A,i::j,d,I=>by
    simp[oH]at I;cases h:px (c aS) i with
    |false=>grind
    |true=>simp[h]at I;exact⟨d.1.sub e g h,eV.sub e g d.2 I⟩
def bx.sub(e:dy aS l=f ao)(g:dy aS b.t=f lD){aa}{I}(i:bx l b aa (e' aS I))(h:hN (c aS) I=m):bx ao {b with t:=lD} aa I:=by
  cases I with
  |p k=>exact ez.sub e g i h
  |ae j=>obtain⟨A,a,d⟩:=i;exact⟨A,a,d.sub e g h⟩
  |any=>trivial
def b6.sub(e:dy aS l=f ao)(g:dy aS b.t=f lD):∀{A:n Z} {a:n y},b6 l b A (gr aS a)->g7 (c aS) a=m->b6 ao {b with t:=lD} A a
  |[],[],_,_=>trivial
  |[],_::_,d,_=>d.elim
  |_::_,[],d,_=>d.elim
  |k::A,i::j,d,I=>by
    simp[g7]at I;cases h:hN (c aS) i with
    |false=>grind
    |true=>simp[h]at I;exact⟨d.1.sub e g h,b6.sub e g d.2 I⟩
variable {fb:n an}{b7:a5}
def bO.cN(o:b7.E=b.E)(k:∀(e:Nat) h,l[e]?=f h->∃g,aS[e]?=f g/\fb[g]?=f h)(j:∀(e:Nat) L,b.t[e]?=f L->∃g,aS[e]?=f g/\b7.t[g]?=f L)(i:c b.t=c l):
    ∀{A:n Z} {d:n Q},bO l b A d->bO fb b7 A (qU aS d)
  |[],[],_=>trivial
  |[],_::_,a=>a.elim
  |_::_,[],a=>a.elim
  |_::_,_::_,a=>⟨a.1.cN o k j i,bO.cN o k j i a.2⟩
def ez.cN(o:b7.E=b.E)(n:∀(a:Nat) (h:an),l[a]?=f h->∃d,aS[a]?=f d/\fb[d]?=f h)(j:∀(a:Nat) (L:Loc),b.t[a]?=f L->∃d,aS[a]?=f d/\b7.t[d]?=f L)(i:c b.t=c l){aa}{k}(q:ez l b aa k):ez fb b7 aa (pI aS k):=by
  cases k with
  |R s=>exact cx.cN o n j i q
  |agg r=>obtain⟨A,e,g⟩:=q;exact⟨A,e,g.cN o n j i⟩
def eV.cN(o:b7.E=b.E)(k:∀(d:Nat) h,l[d]?=f h->∃e,aS[d]?=f e/\fb[e]?=f h)(j:∀(d:Nat) (L:Loc),b.t[d]?=f L->∃e,aS[d]?=f e/\b7.t[e]?=f L)(i:c b.t=c l):
    ∀{A:n Z} {g:n E1},eV l b A g->eV fb b7 A (tG aS g)
  |[],[],_=>trivial
  |[],_::_,a=>a.elim
  |_::_,[],a=>a.elim
  |_::_,_::_,a=>⟨a.1.cN o k j i,eV.cN o k j i a.2⟩
def bx.cN(o:b7.E=b.E)(n:∀(a:Nat) (i:an),l[a]?=f i->∃d,aS[a]?=f d/\fb[d]?=f i)(k:∀(a:Nat) (L:Loc),b.t[a]?=f L->∃d,aS[a]?=f d/\b7.t[d]?=f L)(j:c b.t=c l){aa}{e}(q:bx l b aa e):bx fb b7 aa (e' aS e):=by
  cases e with
  |p s=>exact ez.cN o n k j q
  |ae r=>obtain⟨A,g,h⟩:=q;exact⟨A,g,h.cN o n k j⟩
  |any=>trivial
end sub
def c'.cu{a:Type}:Nat->a->n a->n a
  |_,_,[]=>[]
  |0,d,_::b=>d::b
  |e+1,d,g::b=>g::c'.cu e d b
def c'{a:Type}:n Nat->n a->n a->n a
  |[],new,old=>old++new
  |d::b,e::new,old=>c' b new (c'.cu d e old)
  |_::_,[],old=>old
theorem mU{b:Type}:∀d (a:b) (e:n b),c'.cu d a e=e.set d a
  |_,_,[]=>by simp[c'.cu]
  |0,a,_::g=>by simp[c'.cu]
  |d+1,a,h::g=>by simp[c'.cu,mU d a g]
def D7{g:Type}:∀{aS:n Nat} {new old:n g},e_ aS=m->(∀a∈aS,a<c old)->c aS<=c new ->
    c (c' aS new old)=c old+(c new-c aS)/\(∀(b a:Nat),aS[b]?=f a->(c' aS new old)[a]?=new[b]?) /\
    (∀b,(c' aS new old)[c old+b]?=new[c aS+b]?)/\(∀d,d<c old->d∉aS->(c' aS new old)[d]?=old[d]?)
  |[],new,old,_,_,_=>by
    refine⟨by simp[c'],by simp,λb=>?_,λd j _=>?_⟩
    · simp[c',gC,cV]
      grind
    · simp[c',kH j]
  |a::aS,[],old,_,_,l=>by grind
  |a::aS,r::new,old,e,i,t=>by
    have s:=e;simp[e_]at e;cases k:ei a aS with
    |true=>grind
    |false=>
      simp[k]at e;have o:a<c old:=i a E;have u:a∉aS:=λl=>by grind[vE]
      obtain⟨y,w,z,x⟩:=D7 (aS:=aS) (new:=new) (old:=old.set a r) e (λq h=>by grind) N;simp[c',mU];grind
def Y(k:ag P)(i:a3)(args:n y)(h:n an)(e:y)(b:n an):Prop:=
  (∃fn,P.funcs[i]?=f fn/\(fn.name== "runtime.NumGoroutine")=v/\fn.body.isNone=v) /\
  ∀g (A:n Z),b6 h g A args->bd h g->∀(j:ak->a5->Prop) d,
    (∀l o a,mj P i l o a->bx b a o e->bd b a->dd h g b a->cc k j (G l d) a)->cc k j (G (Frame.enter P i A.toArray .normal) d) g
def bk(l:ag P)(j:a3)(args:n y)(i:n an)(e:ι->y)(b:ι->n an):Prop:=
  (∃fn,P.funcs[j]?=f fn/\(fn.name== "runtime.NumGoroutine")=v/\fn.body.isNone=v) /\
  ∀h (A:n Z),b6 i h A args->bd i h->∀(k:ak->a5->Prop) d,
    (∀g o q a,mj P j o q a->bx (b g) a q (e g)->bd (b g) a->dd i h (b g) a->cc l k (G o d) a)->cc l k (G (Frame.enter P j A.toArray .normal) d) h
def Y.tocF{g:ag P}{h}{args}{res}(i:Y g h args l res ao):bk (ι:=Unit) g h args l (λ_=>res) (λ_=>ao):=
  ⟨i.1,λk A e d j a b=>i.2 k A e d j a (b ())⟩
def bk.toY{g:ag P}{h}{args}{res}(i:bk (ι:=Unit) g h args l (λ_=>res) (λ_=>ao)):Y g h args l res ao:=
  ⟨i.1,λk A e d j a b=>i.2 k A e d j a (λ_=>b)⟩
def oS(b:a5)(d:n Loc):Nat->Prop:=λa=>b.own a∨((∃L∈b.t,a∈L.al)/\∀L∈d,a∉L.al)
def gL(a:Nat):Nat->n Nat
  |0=>[]
  |b+1=>a::gL (a+1) b
def Nz:∀d b a,(gL b d)[a]?=if a<d then f (b+a)else p
  |0,b,a=>by simp[gL]
  |d+1,b,0=>by simp[gL]
  |d+1,b,a+1=>by simp[gL,oa,Nz d (b+1) a,Nat.add_lt_add_iff_right];grind
def frame{aO}{j}{z}(u:bd l b)(P:dy aS l=f de)(aX:dy aS b.t=f z)(Z:e_ aS=m)(aC:ew aO=m)(E:bd aO j)(i:dd de {b with t:=z,own:=oS b z} aO j)(X:c aS<=c aO){res}(aD:bx aO j aa res):
    ∃b7:a5,b7.a=j.a/\bx (c' aS aO l) b7 aa (e' (aS++gL (c l) (c aO-c aS)) res)/\bd (c' aS aO l) b7/\dd l b (c' aS aO l) b7/\b7.E=j.E/\b7.own=b.own/\∀L∈b7.t,L∈j.t∨(L∈b.t/\∀h∈L.al,∀o∈z,h∉o.al):=by
  have aR:∀A∈aS,A<c l:=by intro A y;obtain⟨d,t,rfl⟩:=hq y;obtain⟨aF,_,a0⟩:=(l_ P).2 d _ (bG t);grind
  have O:∀A∈aS,A<c b.t:=by rw[u.len];omega
  have H:c aS<=c j.t:=by rw[E.len];omega
  obtain⟨an,ao,S,aq⟩:=D7 (new:=aO) (old:=l) Z aR X;obtain⟨T,ar,U,au⟩:=D7 (new:=j.t) (old:=b.t) Z O H;obtain⟨aZ,av⟩:=l_ P;obtain⟨d1,d2⟩:=l_ aX;let aj:=aS++gL (c l) (c aO-c aS);have aT:∀d,d<c aO->∃A,aj[d]?=f A/\(c' aS aO l)[A]?=aO[d]?/\(c' aS j.t b.t)[A]?=j.t[d]?:=by
    intro d t;rcases d6 d (c aS) with K|ai
    · refine⟨aS[d],?_,ao d _ (bG K),ar d _ (bG K)⟩
      grind
    · refine⟨c l+(d-c aS),?_,?_,?_⟩
      · simp[aj]
        rw[hr ai,Nz,br x]
      · rw[S];grind
      · rw[<-u.len,U];grind
  have I:∀g L,(c' aS j.t b.t)[g]?=f L->(∃d,d<c aO/\j.t[d]?=f L/\(∀w,(c' aS aO l)[g]?=f w->aO[d]?=f w)/\(∀A,aS[d]?=f A->A=g)/\(d≥c aS->g=c l+(d-c aS))) ∨
      (g<c l/\g∉aS/\b.t[g]?=f L/\(c' aS aO l)[g]?=l[g]?):=by
    intro g L k;have aU:g<c (c' aS j.t b.t):=(cO.1 k).1;rcases d6 g (c l) with K|ai
    · by_cases C:g∈aS
      · obtain⟨d,t,rfl⟩:=hq C
        have y:=bG t;grind
      · exact .inr ⟨K,C,by rw[<-au g (by rw[u.len];omega) C];exact k,aq g K C⟩
    · rw[T,E.len,u.len]at aU
      refine .inl ⟨c aS+(g-c l),by omega,?_,λw aG=>?_,λA y=>?_,λ_=>by omega⟩
      · rw[<-U,u.len,AX ai];exact k
      · rw[<-S,AX ai];exact aG
      grind
  have Q:∀L∈z,L∈b.t:=by intro L k;obtain⟨d,t,rfl⟩:=hq k;have ae:d<c aS:=N;obtain⟨aF,aP,R⟩:=d2 d _ (bG ae);grind
  have s:∀g L,g∉aS->b.t[g]?=f L->∀h∈L.al,h<b.a.heap.size/\∀o∈z,h∉o.al:=by intro g L F k h n;refine⟨u.lt L (ca k) h n,λo q r=>?_⟩;obtain⟨d,t,rfl⟩:=hq q;have ae:d<c aS:=N;obtain⟨aF,aP,R⟩:=d2 d _ (bG ae);rw[bG t]at aP;cases aP;have:=u.a3 g aS[d] L _ k R h n r;grind
  have ab:∀h,h<b.a.heap.size->(∀L∈b.t,h∉L.al)->∀L∈z,h∉L.al:=λh _ ah L k=>ah L (Q L k);have V:fm l b (c' aS aO l) ⟨c' aS j.t b.t,j.E,j.a,b.own⟩:=by
    refine⟨i.mem,λg w L aG k=>?_⟩;have K:g<c l:=(cO.1 aG).1;by_cases C:g∈aS
    · obtain⟨d,t,rfl⟩:=hq C
      have y:=bG t;obtain⟨aF,aP,R⟩:=av d _ y;obtain⟨a8,aH,ad⟩:=d2 d _ y;rw[aG]at R;cases R;rw[k]at ad;cases ad;obtain⟨aQ,o,a3,a4,a6⟩:=i.box d w L aP aH;grind
    · exact⟨w,L,by grind,by grind,.refl _ _⟩
  refine⟨⟨c' aS j.t b.t,j.E,j.a,b.own⟩,a,?_,⟨E.mem,?_,?_,?_,?_,?_⟩,⟨i.size,?_,i.mem,?_,?_,V.box,i.os,i.tape,i.output,a⟩,a,a,?_⟩
  · refine bx.cN (b:=j) (b7:=⟨c' aS j.t b.t,j.E,j.a,b.own⟩) (fb:=c' aS aO l) (aS:=aj) a (λd w aG=>?_) (λd L k=>?_) E.len aD
    · grind
    · obtain⟨A,k1,_,a1⟩:=aT d (by rw[<-E.len];grind)
      grind
  · simp only;rw[an,T,E.len,u.len]
  · intro g w L aG k
    rcases I g L k with⟨d,t,B,D,_⟩|⟨F,C,q,aV⟩
    · exact ey.plain (l:=aO) (b:=j) (az:=⟨c' aS j.t b.t,j.E,j.a,b.own⟩) a a (vW aC w (ca (D w aG))) (E.box d w L (D w aG) B)
    · rw[aV]at aG
      refine(u.box g w L aG q).ck V u.len λh n=>?_;obtain⟨ak,ag⟩:=s g L C q h n;exact⟨i.a6 h (.inr ⟨⟨L,ca q,n⟩,ag⟩),i.bG h ak ag⟩
  · intro g J L o k q h n r
    rcases I g L k with⟨d,t,B,_,aL,aM⟩|⟨F,C,e,_⟩<;>rcases I J o q with⟨aE,ae,aI,_,aw,ax⟩|⟨aN,Y,G,_⟩
    · have a7:=E.a3 d aE L o B aI h n r
      grind
    · obtain⟨ak,ag⟩:=s J o Y G h r
      rcases i.bW L (ca B) h n with ah|⟨M,W,aK⟩
      · grind
      grind
    · obtain⟨ak,ag⟩:=s g L C e h n
      rcases i.bW o (ca aI) h r with ah|⟨M,W,aK⟩
      · grind
      grind
    · exact u.a3 g J L o e G h n r
  · intro L k h n
    obtain⟨g,F,rfl⟩:=hq k;rcases I g _ (bG F)with⟨d,t,B,_⟩|⟨_,_,e,_⟩
    · exact E.lt _ (ca B) h n
    · have:=u.lt _ (ca e) h n
      have:=i.size;grind
  · intro h n
    refine⟨?_,λL k aJ=>?_⟩
    · have:=(u.own h n).1
      have:=i.size;grind
    · obtain⟨g,F,rfl⟩:=hq k
      rcases I g _ (bG F)with⟨d,t,B,_⟩|⟨_,_,e,_⟩
      · have aA:j.own h:=by rw[i.own];exact .inl n
        exact(E.own h aA).2 _ (ca B) aJ
      · exact(u.own h n).2 _ (ca e) aJ
  · intro h n
    exact i.a6 h (.inl n)
  · intro h n aW a2
    exact i.bG h n (ab h n aW) a2
  · intro L k h n
    obtain⟨g,F,rfl⟩:=hq k;rcases I g _ (bG F)with⟨d,t,B,_⟩|⟨_,_,e,_⟩
    · rcases i.bW _ (ca B) h n with ah|⟨M,W,aK⟩
      · grind
      grind
    grind
  · intro L k
    obtain⟨g,F,rfl⟩:=hq k;rcases I g _ (bG F)with⟨d,t,B,_⟩|⟨_,C,e,_⟩
    · grind
    grind
def gR:y->Option (a3×n O)
 |.p (.R (.c (.fn (.func b) [] a)))=>f (b,a)
 |_=>p
theorem na{l}{b}{d:aA->Z}{a:aA->y}(e:∀h,bx l b (d h) (a h)):∀g:n aA,b6 l b (g.map d) (g.map a)
 |[]=>trivial
 |j::i=>⟨e j,na e i⟩
def b6.append{l}{b}:∀{A e:n Z}{g a:n y},b6 l b A g->b6 l b e a->b6 l b (A++e) (g++a)
 |[],_,[],_,_,d=>d
 |[],_,_::_,_,d,_=>d.elim
 |_::_,_,[],_,d,_=>d.elim
 |_::_,_,_::_,_,d,h=>⟨d.1,b6.append d.2 h⟩
def BX:Q->Q
 |.w _ b d a=>.c (.C v b d a)
 |.c (.C _ b d a)=>.c (.C v b d a)
 |e=>e
def HP{d}(a:cx l b aa d):cx l b aa (BX d):=by
 cases d with
 |w i h j e=>exact a.1
 |c g=>cases g<;>first|exact a|exact Rd.eo a
 |_=>exact a
def BZ:n Q->n Q
 |[]=>[]
 |a::b=>BX a::BZ b
def HR{l}{b}:∀{A:n Z}{d:n Q},bO l b A d->bO l b A (BZ d)
 |[],[],_=>trivial
 |[],_::_,a=>a.elim
 |_::_,[],a=>a.elim
 |_::_,_::_,a=>⟨HP a.1,HR a.2⟩
def BY:y->y
 |.p (.R b)=>.p (.R (BX b))
 |.p (.agg a)=>.p (.agg (BZ a))
 |d=>d
def HQ{a}(d:bx l b aa a):bx l b aa (BY a):=by
 cases a with
 |p i=>cases i with
  |R k=>exact HP d
  |agg h=>obtain⟨A,e,g⟩:=d;exact⟨A,e,HR g⟩
 |ae j=>exact d
 |any=>trivial
def lb:n y->n y
 |[]=>[]
 |a::b=>BY a::lb b
theorem u1{l}{b}:∀{A:n Z}{d:n y},b6 l b A d->b6 l b A (lb d)
 |[],[],_=>trivial
 |[],_::_,a=>a.elim
 |_::_,[],a=>a.elim
 |_::_,_::_,a=>⟨HQ a.1,u1 a.2⟩
def e4:n O->n y
 |[]=>[]
 |a::b=>aw a::e4 b
theorem qo{l}{b}:∀{A:n Z}{a:n O},(∀(g:Nat)d,a[g]?=f d->∃h,A[g]?=f h/\Rd b.E h d)->c A=c a->b6 l b A (e4 a)
 |[],[],_,_=>trivial
 |[],_::_,_,e=>by grind
 |_::_,[],_,e=>by grind
 |h::A,d::a,e,o=>by obtain⟨q,i,j⟩:=e 0 d rfl;simp at i;subst i;exact⟨j,qo (λg d k=>by simpa using e (g+1) d N) N⟩
def Eo{a b:n α}(h:dy aS a=f b):∀d∈b,d∈a:=by intro d g;obtain⟨k,e⟩:=l_ h;obtain⟨i,j,rfl⟩:=hq g;obtain⟨q,l,o⟩:=e i _ (bG x);grind
def bd.sub{k}(h:bd l b)(E:dy aS l=f de)(I:dy aS b.t=f k)(K:ew de=m)(t:e_ aS=m):
  bd de {b with t:=k,own:=oS b k}/\eY b {b with t:=k,own:=oS b k}:=by
 obtain⟨C,s⟩:=l_ E;obtain⟨d1,d2⟩:=l_ I;have y:∀L∈k,L∈b.t:=Eo I;refine⟨⟨h.mem,by grind,?_,?_,?_,?_⟩,⟨a,λ_ _ _ D=>D,λ_ _ _=>rfl,h.mem,?_⟩⟩
 .intro u x L aG d;have j:u<c aS:=N;obtain⟨R,A,M⟩:=s u _ (bG j);obtain⟨O,o,w⟩:=d2 u _ (bG j);rw[aG]at A;cases A;simp only at d;rw[d]at o;cases o;exact ey.plain (l:=l) (b:=b) (az:={b with t:=k,own:=oS b k}) rfl rfl (vW K x (ca aG)) (h.box _ x L M w)
 .intro u B L r d n i g q;simp only at d n;have j:u<c aS:=N;have F:B<c aS:=N;obtain⟨O,o,w⟩:=d2 u _ (bG j);obtain⟨Q,z,J⟩:=d2 B _ (bG F);rw[d]at o;cases o;rw[n]at z;cases z;have:=h.a3 _ _ L r w J i g q;exact K5 t u B aS[u] (bG j) N
 .intro L d i g;exact h.lt _ (y L d) i g
 .rintro i (g|⟨⟨L,d,g⟩,e⟩)
  .exact⟨(h.own i g).1,λL d=>(h.own i g).2 L (y L d)⟩
  exact⟨h.lt L d i g,e⟩
 rintro i ((g|⟨⟨L,d,g⟩,_⟩)|⟨L,d,g⟩)
 .grind
 .grind
 grind
def eY.cO{aO}{r b7}{i}(u:bd l b)(j:bd aO r)(g:dd de {b with t:=i,own:=oS b i} aO r)(s:b7.a=r.a)(n:b7.E=r.E)(w:b7.own=b.own)(q:∀L∈b7.t,L∈r.t∨(L∈b.t/\∀a∈L.al,∀h∈i,a∉h.al)):eY r b7:=by
 refine⟨s,λa k o e=>by grind,λa _ k=>by rw[n],λa k o e=>by rw[n]at e;exact j.mem a k o e,?_⟩;rintro a (d|⟨L,x,d⟩)
 .left;rw[g.own];exact .inl N
 rcases q L x with e|⟨e,t⟩
 .grind
 left;rw[g.own];exact .inr ⟨⟨L,e,d⟩,t a d⟩
def A'{u:ag P}{i:aL}{h}{w}{bs}{V}(I:i.kind≠.early)(o:aH[e]?=f s)(M:aU s (yielded aH w.tmps)=m)(T:bd l b)(aD:∀z,(ac w.eval s).run P z=.ok (.enter V A.toArray) z)(Q:∀z,(ac w.eval s).events P z #[]=#[])(ae:bk u V cR de res aO)(av:b6 l b A (gr aS cR))(aP:g7 (c aS) cR=m)(x:dy aS l=f de)(K:ew de=m)(Z:∀d,ew (aO d)=m)(U:e_ aS=m)(aq:∀d,c aS<=c (aO d))(E:∀d t az,bx (c' aS (aO d) l) az t (e' (aS++gL (c l) (c (aO d)-c aS)) (res d))->bd (c' aS (aO d) l) az->dd l b (c' aS (aO d) l) az->cc u bq (G (i.N (w.put s.dst t) (.inRegion aH bs::h)) ai) az):
  cc u bq (G (i.N w (.inRegion aH (e::bs)::h)) ai) b:=by
 obtain⟨_,aA⟩:=ae;refine .next a λj ak=>?_;have C:=u.bO ak;have n:=T.rely C;obtain⟨D,N⟩:=v9 (kR:=j.t) x n.len;obtain⟨y,an⟩:=n.sub x N K U;have au:=av.mono C.aY.ext T.len;have O:=(au.sub (b:=j) x N aP).mono (l:=de) (b:={j with t:=D}) (ao:=de) (az:={j with t:=D,own:=oS j D}) ⟨λ_ _ _ E=>E,λaE Y L aG F=>⟨Y,L,aG,F,.refl _ _⟩⟩ y.len;refine⟨_,j,_,tN o M I (aD j.a),?_,.aU an (aA _ A O y bq _ λd ar t aw J k g q=>?_)⟩
 .refine⟨⟨l,l,n,n,.refl _ _⟩,du.seen ?_⟩;rw[Q];exact .nil
 refine uP (ai:=ai) (r:=i.N w (.inRegion aH (e::bs)::h)) g J λax R=>?_;have X:=g.rely R;have W:=q.trans R.aY;obtain⟨S,ab,aa,aj,H,ad,ah,aC⟩:=frame n x N U (Z d) X W (aq d) (k.mono R.aY.ext g.len);refine .aU (eY.cO n X W ab ad ah aC) ?_;have B:=qw (i:=i) (w:=w) (h:=h) aH e bs t;rw[o]at B;simp[oc]at B;rw[B];exact E d t S aa aj (C.aY.trans H)
def GJ{i:ag P}{j:aL}{h}{d}{bs}{aO}{n}{res}(F:j.kind≠.early)(k:aH[e]?=f s)(C:aU s (yielded aH d.tmps)=m)(E:bd l b)(t:∀g,(ac d.eval s).run P g=.ok (.enter n A.toArray) g)(r:∀g,(ac d.eval s).events P g #[]=#[])(B:Y i n cR de res aO)(q:b6 l b A (gr aS cR))(x:g7 (c aS) cR=m)(y:dy aS l=f de)(D:ew de=m)(u:ew aO=m)(I:e_ aS=m)(z:c aS<=c aO)(w:∀o a,bx (c' aS aO l) a o (e' (aS++gL (c l) (c aO-c aS)) res)->bd (c' aS aO l) a->dd l b (c' aS aO l) a->cc i bq (G (j.N (d.put s.dst o) (.inRegion aH bs::h)) ai) a):
  cc i bq (G (j.N d (.inRegion aH (e::bs)::h)) ai) b:=
 A' F k C E t r B.tocF q x y D (λ_=>u) I (λ_=>z) (λ_=>w)
theorem mT(b:s.op=.call {callee:=.value cP,args:=ah,argTypes:=dn}){d}{fn}(i:P.funcs[d]?=f fn)(n:(fn.name== "runtime.NumGoroutine")=v)(l:fn.body.isNone=v){a:Act}{ai}(j:a.eval cP=.func (.func d) #[] ai.toArray)(e):
  (ac a.eval s).run P e=.ok (.enter d (ah.toList.map a.eval++ai).toArray) e/\(ac a.eval s).events P e #[]=#[]:=by
 have k:(ah.map a.eval++ai.toArray)=(ah.toList.map a.eval++ai).toArray:=N;have h:fn.name≠ "runtime.NumGoroutine":=N;have g:fn.body≠p:=N;constructor
 .simp[ac,b,resolve,j,Deferred.ofValue,invoke,callFunc,i,h,g,k]
 simp[ac,b,resolve,j,Deferred.ofValue,invoke,callFunc,i,h,g]
def fc.eZ{x:ag P}{aP:bI->n an->Prop}(L:∀l h j,bZ D l h F j->aU s (yielded all.toArray j.tmps)=m)(t:s.op=.call {callee:=.value cP,args:=ah,argTypes:=dn}){Z:a3}(w:gR (bF F cP)=f (Z,cap))(b:n Nat)(ae:bk x Z cR de res aO)(aJ:∀h A,b6 l h A (ah.toList.map (bF F)++e4 cap)->b6 l h A (gr b cR))(ao:g7 (c b) cR=m)(aq:dy b l=f de)(au:ew de=m)(Q:∀d,ew (aO d)=m)(S:e_ b=m)(G:∀d,c b<=c (aO d))(C)(ar:s.dst=C)(aA:∀u,C=f u->u<D)(aI:∀d,fc x D all bs aP (fW C (e' (b++gL (c l) (c (aO d)-c b)) (res d)) F) (c' b (aO d) l)):fc x D all (s::bs) aP F l:=by
 subst ar;intro h j k g aC U B ax idx o a J;cases idx with
 |nil=>exact a.elim
 |cons aR idx=>
 obtain⟨K,a⟩:=a;have ai:=eO k cP;unfold gR at w;split at w
 case h_2=>cases w
 case h_1 vf u2 he=>
  cases w;rw[he]at ai;have ab:=b8 ai;generalize Y:j.eval cP=aG at ab;cases ab with
  |fn aF e R r aE E aH I aM V=>
   have y:=jF R;subst y;have aK:b6 l h e (e4 cap):=qo (λd aD M=>⟨E d,I d N,V d aD M⟩) r;have aN:b6 l h (ah.toList.map j.eval++e) (gr b cR):=by exact aJ _ _ ((na (eO k) ah.toList).append aK)
   obtain⟨fn,aj,ad,aa⟩:=ae.1;refine A' o K (L _ _ _ k) g (λX=>(mT t aj ad aa Y X).1) (λX=>(mT t aj ad aa Y X).2) ae aN ao aq au Q S G λd aS W T q i=>?_;refine aI d W _ ?_ q aC U B ax idx o a λH ak aw z aL az av O=>J H ak aw z aL az av (i.trans O);cases aQ:s.dst with
   |none=>exact k.mono i g.len
   |some u=>exact(k.mono i g.len).put (aA u aQ) T
def fc.gT{d:ag P}{aP:bI->n an->Prop}(B:∀l j h,bZ D l j F h->aU s (yielded all.toArray h.tmps)=m)(g:s.op=.call {callee:=.value cP,args:=ah,argTypes:=dn}){i}(z:gR (bF F cP)=f (i,cap))(aS)(w:bk d i cR de res aO)(E:lb (ah.toList.map (bF F)++e4 cap)=gr aS cR)(q:g7 (c aS) cR=m)(r:dy aS l=f de)(x:ew de=m)(o:∀a,ew (aO a)=m)(e:e_ aS=m)(t:∀a,c aS<=c (aO a))(b)(y:s.dst=b)(C:∀k,b=f k->k<D)(u:∀a,fc d D all bs aP (fW b (e' (aS++gL (c l) (c (aO a)-c aS)) (res a)) F) (c' aS (aO a) l)):fc d D all (s::bs) aP F l:=
 fc.eZ B g z aS w (λj A I=>by grind[u1]) q r x o e t b y C u
theorem fc.call{b:ag P}{aP:bI->n an->Prop}(z:∀l B g,bZ D l B F g->aU s (yielded all.toArray g.tmps)=m)(e:s.op=.call {callee:=.value cP,args:=ah,argTypes:=dn}){h}(y:gR (bF F cP)=f (h,cap))(aS){aO}{res}(t:Y b h cR de res aO)(j:lb (ah.toList.map (bF F)++e4 cap)=gr aS cR)(o:g7 (c aS) cR=m)(q:dy aS l=f de)(u:ew de=m)(k:ew aO=m)(d:e_ aS=m)(r:c aS<=c aO)(a)(x:s.dst=a)(A:∀i,a=f i->i<D)(w:fc b D all bs aP (fW a (e' (aS++gL (c l) (c aO-c aS)) res) F) (c' aS aO l)):fc b D all (s::bs) aP F l:=
 fc.gT z e y aS t.tocF j o q u (λ_=>k) d (λ_=>r) a x A (λ_=>w)
def n4.range(all):n4 all (aB all.toArray.size) all:=by
 have key:∀a j,(∀u s,a[u]?=f s->all[j+u]?=f s)->n4 all (List.range' j (c a)) a:=by
  intro a;induction a with
  |nil=>intro j _;trivial
  |cons s bb w=>
   exact QC
 grind[List.range_eq_range']
theorem b2.region{q:ag P}{aP}{id}(z:fc q D aH.toList aH.toList (λF l=>aP .normal F l) F l):b2 q D (.region id aH v) aP F l:=by intro C s y d t A i r k j;refine .ctl d a (λ_=>zm) λw b=>?_;have:=z w s (y.rely b d) (d.rely b) t A i r (aB aH.size) k (by simpa using n4.range aH.toList) λe g n h B u x o=>j .normal e g n h B u x (b.aY.trans o);omega
def fc.nil{P:aI}{d:ag P}{D}{all}{aP:bI->n an->Prop}{F}{l}(o:aP F l):fc d D all [] aP F l:=by
 intro u e k b r t h q idx _ g i;cases idx with
 |cons s idx=>exact g.elim
 |nil=>exact .ctl b rfl (λ_=>v_) λj a=>i F l j e o (k.rely a b) (b.rely a) a.aY
def fc.mono{o:ag P}{aP q:bI->n an->Prop}(z:fc o D all bs aP F l)(y:∀F l,aP F l->q F l):fc o D all bs q F l:=
 λb s x i t A e r idx h j g=>z b s x i t A e r idx h j λa ao az d B u w k=>g a ao az d (y _ _ B) u w k
def fc.le{P:aI}{i:ag P}{D}{all bs}{aP:bI->n an->Prop}{F dF}{l}(r:fc i D all bs aP dF l)(h:iD F dF):fc i D all bs aP F l:=
 λt k q e o s a j idx d g b=>r t k (q.le h) e o s a j idx d g b
def h3:Nat->n y->bI
 |_,[]=>[]
 |a,b::d=>(a,b)::h3 (a+1) d
def yM:∀d(a b:Nat),look (h3 a d) b=if a<=b then(d[b-a]?).getD .any else .any
 |[],a,b=>by simp[h3,look]
 |g::e,a,b=>by
  simp only[h3,look];by_cases h:a=b
  .grind [Nat.beq_refl]
  have:af a b=v:=uj;rw[this];simp[cond,yM e (a+1) b];grind
theorem b6.get{l}{b}:∀{A:n Z}{a:n y},b6 l b A a->c A=c a/\∀(u:Nat),bx l b ((A[u]?).getD K) ((a[u]?).getD .any)
 |[],[],_=>⟨rfl,λu=>by simp[bx]⟩
 |[],_::_,d=>d.elim
 |_::_,[],d=>d.elim
 |i::A,h::a,d=>by
  obtain⟨e,g⟩:=b6.get d.2;refine⟨by grind,λu=>?_⟩;cases u with
  |zero=>simpa using d.1
  |succ u=>grind
def oU(a:bI):n ResultVar->Option (n y)
 |[]=>f []
 |.tmp e::d=>match oU a d with
  |some b=>f (look a e::b)
  |none=>p
 |.cell _ _::_=>p
def q0:n y->Option (n E1)
 |[]=>f []
 |.p d::b=>match q0 b with
  |some a=>f (d::a)
  |none=>p
 |_::_=>p
def py:n y->Option y
 |[d]=>f d
 |a=>match q0 a with
  |some b=>f (.ae b)
  |none=>p
def ic(d:Act):ResultVar->Sem Z
 |ResultVar.tmp b=>pure (d.tmps.getD b K)
 |ResultVar.cell a b=>do loadVar b (<-asAddr (d.tmps.getD a K))
def L_(P){D}{l}{b}{F}{g}(k:bZ D l b F g):∀{e:n ResultVar}{a:n y},oU F e=f a ->
  ∃A,(∀i,(e.mapM (ic g)).run P i=Result.ok A i)/\b6 l b A a/\dC P (e.mapM (ic g))
 |[],a,d=>by cases d;exact⟨[],by simp,C,by rw[List.mapM_nil];exact .pure⟩
 |.tmp h::o,a,d=>by
  simp[oU]at d;cases j:oU F o with
  |none=>grind
  |some u=>
   simp[j]at d;subst d;obtain⟨A,r,s,t⟩:=L_ P k j;refine⟨g.tmps.getD h K::A,?_,⟨k.aK h,s⟩,?_⟩
   .intro i;simp[pc,cI,ic,d_,c7,r]
   rw[pc];exact .bind .pure λ_=>.bind t λ_=>.pure
 |.cell q h::o,a,d=>by simp[oU]at d
def Nl{l}{b}:∀{A:n Z}{e:n y}{a:n E1},q0 e=f a->b6 l b A e->eV l b A a
 |[],[],a,d,_=>by cases d;trivial
 |[],_::_,_,_,d=>d.elim
 |_::_,[],_,_,d=>d.elim
 |k::A,.p o::i,a,d,h=>by
  simp[q0]at d;cases g:q0 i with
  |none=>grind
  |some j=>simp[g]at d;subst d;exact⟨h.1,Nl g h.2⟩
 |_::_,.ae _::_,a,d,_=>by simp[q0]at d
 |_::_,.any::_,a,d,_=>by simp[q0]at d
def Kn{bg}{h}(d:py bg=f h)(e:b6 l b A bg):bx l b (if d:c A=1 then A[0]else .tuple A.toArray) h:=by
 unfold py at d;split at d
 .rename_i B;cases d
  match A,e with
  |[o],e=>simpa using e.1
 rename_i n;cases g:q0 bg with
 |none=>grind
 |some j=>
  simp[g]at d;subst d;have k:c A≠1:=by
   intro i;rw[(b6.get e).1]at i
   match bg,i with
   |[q],_=>grind
  rw[dif_neg k];exact⟨A,a,Nl g e⟩
def o6(P:aI)(fn:Func)(k:bI)(o:y):Prop:=∀{l:Nat}{i:n an}{d:a5}{h:Act},bZ l i d k h->∃j,bx i d j o/\∀g,(∀a b e,d.E a b=f e->g.cell? ⟨a,b,p⟩=f e)->(results fn h.tmps).run P g=.ok j g/\∀q∈(results fn h.tmps).events P g #[],∃a b e,q=⟨.cell ⟨a,b,p⟩,v,v⟩/\d.E a b=f e
def Mh{a}(k:bZ D l b F a){fn}{bg}{g}(o:oU F fn.results.toList=f bg)(i:py bg=f g):
  ∃h,(∀d,(results fn a.tmps).run P d=.ok h d)/\bx l b h g/\dC P (results fn a.tmps):=by
 obtain⟨A,r,j,n⟩:=L_ P k o;refine⟨_,λd=>?_,Kn i j,?_⟩
 .have e:(fn.results.mapM (ic a)).run P d=Result.ok A.toArray d:=RE;unfold results;rw[cI];refine(eN (λq=>Result.andThen q _) (Eq.trans ?_ e)).trans ?_
  .congr 2
  simp
 unfold results;have e:dC P (fn.results.mapM (ic a)):=by rw[xh];exact .map n
 exact .bind e λ_=>.pure
theorem o6.of{fn}{bg}{e}(k:oU F fn.results.toList=f bg)(d:py bg=f e):o6 P fn F e:=by intro n o s q j;obtain⟨l,a,b,i⟩:=Mh (P:=P) j k d;exact⟨l,b,λg _=>⟨a g,λr h=>by rw[i g #[]]at h;grind⟩⟩
section
def bd.eb(a:bd l b):bd (l.map λ_=>.M) b:=by
 refine⟨a.mem,by simp[a.len],λg h L aG e=>?_,a.a3,a.lt,a.own⟩;simp only[ng]at aG;cases d:l[g]? with
 |none=>grind
 |some i=>rw[d]at aG;cases aG;trivial
structure p_(nH:n Nat)(b az:a5):Prop where
 t:az.t=b.t
 E:az.E=b.E
 own:az.own=b.own
 size:b.a.heap.size<=az.a.heap.size
 a6:∀i,(b.own i∨∃(d:Nat) (L:Loc),b.t[d]?=f L/\d∉nH/\i∈L.al)->az.a.heap[i]?=b.a.heap[i]?
 mem:∀i s aa,b.E i s=f aa->az.a.cell? ⟨i,s,p⟩=f aa
 os:az.a.os=b.a.os
 tape:az.a.tape=b.a.tape
 output:az.a.output=b.a.output
def cU.kg(a:cU b az)(nH):p_ nH b az:=
 ⟨a.t,a.E,a.own,a.size,λh e=>a.a6 h (e.imp id λ⟨i,L,d,_,g⟩=>⟨L,ca d,g⟩),a.mem,a.os,a.tape,a.output⟩
theorem p_.Y{nH}{l b7}(a:p_ [d] b l)(e:p_ nH l b7):p_ (d::nH) b b7:=by refine⟨e.t.trans a.t,e.E.trans a.E,e.own.trans a.own,fM a.size e.size,λg j=>?_,λg q r n=>e.mem g q r (by rw[a.E];exact n),e.os.trans a.os,e.tape.trans a.tape,e.output.trans a.output⟩;rw[e.a6 g,a.a6 g (j.imp id λ⟨k,L,h,i,o⟩=>⟨k,L,h,λs=>i N,o⟩)];rw[a.own,a.t];grind
def acJ{d}{b}(e:d.heap[b]?=f (.deferred (f []))):
  (Instr.takeDeferred b).run P d=.ok [] {d with heap:=d.heap.setIfInBounds b (.deferred p)}/\(Instr.takeDeferred b).events P d #[]=#[⟨.obj b,v,v⟩,⟨.obj b,m,v⟩]:=by
 have g:(getObj b).run P d=.ok (.deferred (f [])) d:=by simp[getObj,Sem.run,e]
 have h:(setObj b (.deferred p)).run P d=.ok () {d with heap:=d.heap.setIfInBounds b (.deferred p)}:=by simp[setObj,Sem.run,e]
 have j:∀a,(getObj b).events P d a=a.push ⟨.obj b,v,v⟩:=λa=>by simp only[getObj,Sem.events,Sem.runT,e];rfl
 have i:∀a,(setObj b (.deferred p)).events P d a=a.push ⟨.obj b,m,v⟩:=λa=>by simp[setObj,Sem.events,Sem.runT,e];rfl
 constructor
 .simp[Instr.takeDeferred,g,h]
 simp[Instr.takeDeferred,g,j,i]
variable {q:ag P}{eS:Bool}
def acZ{a}{b}{bg}{d}(g:a.mode=.returning)(e:a.defers={target:=.collected b,args:=#[]}::bg)(i:d.heap[b]?=f (.deferred (f []))):
  ar P eS (G a ai) d=.go (G {a with defers:=bg} ai) {d with heap:=d.heap.setIfInBounds b (.deferred p)} (seen P a.fn #[⟨.obj b,v,v⟩,⟨.obj b,m,v⟩]):=by obtain⟨j,h⟩:=acJ (P:=P) i;simp[G,ar,unwind,g,e,j,h,GStep.after]
def ro(d:a5):n Deferred->n Nat->Prop
 |[],[]=>True
 |h::e,g::a=>(∃b:Nat,d.t[g]?=f ⟨.int .i64 b,[b]⟩/\d.a.heap[b]?=f (.deferred (f []))/\(∀i,d.E b i=p)/\h={target:=.collected b,args:=#[]})/\g∉a/\ro d e a
 |_,_=>False
def i_.gF{l}{b}(g:bd l b):∀{a:n Deferred}{d:n Nat},i_ l b a d->ro b a d
 |[],[],_=>trivial
 |[],_::_,h=>h.elim
 |_::_,[],h=>h.elim
 |y::a,w::d,⟨⟨j,L,h,e,u,s⟩,t,k⟩=>by obtain⟨i,k1,o,q⟩:=g.box w _ L j e;subst k1;simp at u;have r:i=h:=x;subst r;exact⟨⟨i,e,o,q,s⟩,t,i_.gF g k⟩
def ro.mono{b az}{i}(h:p_ [i] b az):∀{d:n Deferred}{a:n Nat},i∉a->ro b d a->ro az d a
 |[],[],_,_=>trivial
 |[],_::_,_,e=>e.elim
 |_::_,[],_,e=>e.elim
 |s::d,r::a,k,⟨⟨e,g,j,t,o⟩,q,l⟩=>by simp[fr,not_or]at k;refine⟨⟨e,by rw[h.t];exact g,by rw[h.a6 e (.inr ⟨r,_,g,by grind,by simp⟩)];exact j,λu=>by rw[h.E];grind,o⟩,q,ro.mono h k.2 l⟩
def Ba:∀n(g:aL)(s:a5)i,bd i s->(∀C∈i,C=.M)->g.mode=.returning->ro s g.defers n ->
  (∀r,p_ n s r->cc q bq (G {g with defers:=[]} ai) r)->cc q bq (G g ai) s
 |[],g,s,i,J,W,M,x,U=>by
  have A:g.defers=[]:=by
   cases A:g.defers with
   |nil=>rfl
   |cons an D=>rw[A]at x;exact x.elim
  have:=U s ((cU.refl J).kg _);have aq:{g with defers:=[]}=g:=by cases g;simp_all
  grind
 |V::n,g,s,i,J,W,M,x,U=>by
  cases A:g.defers with
  |nil=>rw[A]at x;exact x.elim
  |cons an D=>
   rw[A]at x;obtain⟨⟨k,K,H,aP,ah⟩,aj,ak⟩:=x;subst ah;refine .next a λj y=>?_;have h:=q.bO y;have u:=J.rely h;have O:j.t[V]?=f ⟨.int .i64 k,[k]⟩:=by rw[h.t];exact K
   have Q:j.a.heap[k]?=f (.deferred (f [])):=by rw[h.a6 k (.inr ⟨_,ca K,by simp⟩)];exact H
   have ao:∀o,j.E k o=p:=λo=>by rw[h.E];grind
   let d:a5:={j with a:={j.a with heap:=j.a.heap.setIfInBounds k (.deferred p)}}
   have F:∀b,b≠k->d.a.heap[b]?=j.a.heap[b]?:=λb e=>by grind
   have aa:∀b o B,j.E b o=f B->d.a.cell? ⟨b,o,p⟩=f B:=by intro b o B R;have ab:b≠k:=N;rw[<-u.mem b o B R];simp[aM];grind
   have ad:bd i d:=by
    refine⟨aa,u.len,λw C L aG l=>?_,u.a3,λL l b e=>?_,λb e=>⟨?_,(u.own b e).2⟩⟩
    .rw[W C (ca aG)];trivial
    .have:=u.lt L l b e;grind
    have:=(u.own b e).1;grind
   have ae:∃L∈j.t,k∈L.al:=⟨_,ca O,by simp⟩
   have Y:cN i j i d:=by refine⟨by grind,λb _ e=>F b ?_,λ_ _ _ S=>S,λ_ _ _ _=>rfl,λL l b e=>.inr ⟨L,l,e⟩,λ_ C L S ag=>⟨C,L,S,ag,.refl _ _⟩,rfl,rfl,rfl,rfl⟩;grind
   have I:p_ [V] s d:=by
    refine⟨h.t,h.E,h.own,fM h.size N,λb e=>?_,λb o B R=>aa b o B (by rw[h.E];exact R),h.os,h.tape,h.output⟩;have ab:b≠k:=by
     rintro rfl;rcases e with e|⟨w,t,Z,X,z⟩
     .exact(J.own b e).2 _ (ca K) E
     exact X (by simp;exact J.a3 w V t _ Z K b z E)
    rw[F b ab];exact h.a6 b (e.imp id λ⟨w,t,Z,_,z⟩=>⟨t,ca Z,z⟩)
   refine⟨_,d,_,acZ M A Q,⟨⟨i,i,u,ad,Y⟩,du.seen (.fp ?_ ?_)⟩,?_⟩
   .exact⟨a,.inr ae⟩
   .exact⟨a,.inr ae⟩
   refine Ba n {g with defers:=D} d i ad W M (ak.mono I aj) λr T=>?_;exact U r (I.Y T)
end
def bt(e:Nat)(b d:Nat->n O):Prop:=∀a,a<e->b a=d a
def e1.cE{h}{dK:Nat->n O}(d:e1 bD h j V A)(g:bt j V dK):e1 bD h j dK A:=
 ⟨d.len,λb a=>by rw[<-g b a];exact d.bJ b a,λb a k i e=>d.rd b a k i (by rw[g b a];exact e)⟩
def Dv:O->O->Option (n Prop)
 |.int j e,.int b a=>match ti j b with|true=>f [e=a]|false=>p
 |.bool r,.bool h=>f [r=h]
 |.T s,.T k=>f [s=k]
 |.C q j e i,.C g b a d=>match af j b with
  |true=>match q,g with
   |false,m=>p
   |_,_=>f [e=a,bt e i d]
  |false=>match q,g with
   |true,_=>f [e=0,a=0]
   |_,_=>p
 |.val l,.val o=>f [l=o]
 |l,o=>f [l=o]
def Kv{k X}(a:Dv k X=f ab)(g:U ab)(e:Rd bD aa k):Rd bD aa X:=by
 unfold Dv at a;split at a
 .rename_i h j i d;cases b:ti h i<;>simp[b]at a
  subst a;cases Do b;cases(show j=d from g);exact e
 .cases a;rename_i l n;cases(show l=n from g);exact e
 .cases a;rename_i l n;cases(show l=n from g);exact e
 .rename_i o h j V q i d dK;cases b:af h i with
  |true=>
   simp[b]at a;have t:=di b;subst t;cases o<;>cases q<;>simp at a
   all_goals (subst a;obtain⟨rfl,s⟩:=(show j=d/\bt j V dK from g);first|exact e.cE s|exact e.eo.cE s)
  |false=>
   simp[b]at a;cases o<;>simp at a
   subst a;obtain⟨rfl,rfl⟩:=(show j=0/\d=0 from g)
   obtain⟨u,r,A,rfl,_,_,w,_⟩:=e.b3;grind[Rd.dL]
 .cases a;rename_i k X;cases(show k=X from g);exact e
 cases a;cases g;exact e
def vx:Q->Q->Option (n Prop)
 |.c r,.c s=>Dv r s
 |.w _ j i d,.c (.C v e h b)=>match af j e with|true=>f [i=h,bt i d b]|false=>p
 |.w g j i d,.w a e h b=>match af g a with
  |true=>match af j e with|true=>f [i=h,bt i d b]|false=>p
  |false=>p
 |.ptr g o,.ptr a k=>match af g a with|true=>(match af o k with|true=>f []|false=>p)|false=>p
 |.aV g,.aV a=>match af g a with|true=>f []|false=>p
 |.S g q,.S a l=>match af g a with|true=>f [q=l]|false=>p
 |_,.any=>f []
 |_,_=>p
def Kt{k X}(e:vx k X=f ab)(r:U ab)(o:cx l b aa k):cx l b aa X:=by
 unfold vx at e;split at e
 .exact Kv e r o
 .rename_i h j V g n dK;cases a:af h g<;>simp[a]at e
  subst e;have u:=di a;subst u;obtain⟨rfl,s⟩:=(show j=n/\bt j V dK from r)
  exact o.1.cE s
 .rename_i d h j V i g n dK;cases q:af d i<;>simp[q]at e
  cases a:af h g<;>simp[a]at e
  subst e;have u:=di a;have t:=di q;subst u t;obtain⟨rfl,s⟩:=(show j=n/\bt j V dK from r)
  exact⟨o.1.cE s,o.2.1,o.2.2⟩
 .grind [Nat.eq_of_beq_eq_true]
 .grind [Nat.eq_of_beq_eq_true]
 .rename_i d w i bj;cases q:af d i<;>simp[q]at e
  have t:=di q;subst t;subst e;cases(show w=bj from r);exact o
 .exact cx.cell o
 grind
def gD:n Prop->n Prop->n Prop
 |[],a=>a
 |b::d,a=>b::gD d a
@[simp] theorem U.Y{a b}:U (gD a b)↔U a/\U b:=by
 induction a with
 |nil=>simp[gD]
 |cons g e d=>simp[gD,U.cons,d,and_assoc]
def qK:n Q->n Q->Option (n Prop)
 |[],[]=>f []
 |d::a,e::b=>match vx d e with
  |some g=>match qK a b with
   |some h=>f (gD g h)
   |none=>p
  |none=>p
 |_,_=>p
def Dw{l}{b}:∀{A:n Z}{e g:n Q}{d:n Prop},qK e g=f d->U d->bO l b A e->bO l b A g
 |[],[],[],_,_,_,_=>trivial
 |_::_,[],_,_,_,_,a=>a.elim
 |[],_::_,_,_,_,_,a=>a.elim
 |[],[],_::_,_,a,_,_=>by simp[qK]at a
 |_::_,_::_,[],_,a,_,_=>by simp[qK]at a
 |w::A,r::h,s::i,d,a,j,q=>by
  simp[qK]at a;cases k:vx r s with
  |none=>grind
  |some t=>
   cases o:qK h i with
   |none=>grind
   |some u=>
    simp[k,o]at a;subst a;rw[U.Y]at j;exact⟨Kt k j.1 q.1,Dw o j.2 q.2⟩
def vy:E1->E1->Option (n Prop)
 |.R d,.R e=>vx d e
 |.agg a,.agg b=>qK a b
 |_,_=>p
def Kw{k X}(a:vy k X=f ab)(d:U ab)(e:ez l b aa k):ez l b aa X:=by
 cases k<;>cases X<;>simp[vy,reduceCtorEq]at a
 .exact Kt a d e
 obtain⟨A,g,h⟩:=e;exact⟨A,g,Dw a d h⟩
def rV:n E1->n E1->Option (n Prop)
 |[],[]=>f []
 |d::a,e::b=>match vy d e with
  |some g=>match rV a b with
   |some h=>f (gD g h)
   |none=>p
  |none=>p
 |_,_=>p
def Kx{l}{b}:∀{A:n Z}{e g:n E1}{d:n Prop},rV e g=f d->U d->eV l b A e->eV l b A g
 |[],[],[],_,_,_,_=>trivial
 |_::_,[],_,_,_,_,a=>a.elim
 |[],_::_,_,_,_,_,a=>a.elim
 |[],[],_::_,_,a,_,_=>by simp[rV]at a
 |_::_,_::_,[],_,a,_,_=>by simp[rV]at a
 |w::A,r::h,s::i,d,a,j,q=>by
  simp[rV]at a;cases k:vy r s with
  |none=>grind
  |some t=>
   cases o:rV h i with
   |none=>grind
   |some u=>
    simp[k,o]at a;subst a;rw[U.Y]at j;exact⟨Kw k j.1 q.1,Kx o j.2 q.2⟩
def kq:y->y->Option (n Prop)
 |.p d,.p e=>vy d e
 |.ae a,.ae b=>rV a b
 |_,.any=>f []
 |_,_=>p
theorem pz{k X}(a:kq k X=f ab)(d:U ab)(e:bx l b aa k):bx l b aa X:=by
 cases k<;>cases X<;>simp[kq,reduceCtorEq]at a
 .exact Kw a d e
 .trivial
 .obtain⟨A,i,r⟩:=e;exact⟨A,i,Kx a d r⟩
 .trivial
 trivial
def iT(a:bI):bI->Option (n Prop)
 |[]=>f []
 |(d,b)::h=>match kq (look a d) b with
  |some e=>match iT a h with
   |some g=>f (gD e g)
   |none=>p
  |none=>p
def eH{F}:∀{b:bI}{a:n Prop},iT F b=f a->U a->iD F b
 |[],_,_,_=>λ_ _ _ _ _=>trivial
 |(h,l)::q,a,d,e=>by
  simp[iT]at d;cases o:kq (look F h) l with
  |none=>grind
  |some u=>
   cases g:iT F q with
   |none=>grind
   |some w=>
    simp[o,g]at d;subst d;rw[U.Y]at e;intro j r s i k;simp[look];cases t:af h i with
    |true=>
     grind[Nat.eq_of_beq_eq_true,pz]
    |false=>exact eH g e.2 j r s i k
def l9(a:n an):Bool:=match ew a with|true=>jU a|false=>v
def LC(a:l9 l=m):ew l=m/\jU l=m:=by unfold l9 at a;grind
def i_.e7{l}{b}:∀{e:n Deferred}{d:n Nat},i_ l b e d->∀g∈d,l[g]?=f .bo
 |[],[],_,g,a=>by grind
 |[],_::_,i,_,_=>i.elim
 |_::_,[],i,_,_=>i.elim
 |o::e,k::d,⟨⟨h,_⟩,_,j⟩,g,a=>by
  rcases fr.1 a with rfl|a
  .exact h
  exact i_.e7 j g a
def bX(fn:Func)(o:Nat)(b:y)(d:n an):fv:=λk l h=>
 (k=.ret∨k=.normal)/\∃a e j g,oU l fn.results.toList=f e/\py e=f j/\kq j (e' a b)=f g/\U g/\hN (c a) b=m /\
  dy a h=f d/\l9 d=m/\e_ a=m/\(∀i,i<o->a[i]?=f i)
def k7(P:aI)(fn:Func)(l:Nat)(b:y)(d:n an):fv:=λj k g=>
 (j=.ret∨j=.normal)/\∃a i e,o6 P fn k i/\kq i (e' a b)=f e/\U e/\hN (c a) b=m /\
  dy a g=f d/\l9 d=m/\e_ a=m/\(∀h,h<l->a[h]?=f h)
def bX.toF{fn}{g}{res}{h}{aO}(n:bX fn g res ao h F aO):k7 P fn g res ao h F aO:=by obtain⟨i,d,l,k,e,a,b,j⟩:=n;exact⟨i,d,k,e,o6.of a b,j⟩
def bk.gy{ab:ag P}{S}{fn}{args}{q:ι->n an}(pu:P.funcs[S]?=f fn)(bh:(fn.name== "runtime.NumGoroutine")=v)(cT:fn.body=f r)(aM:args.length<=fn.ntmps)(U:∀b a_,bZ fn.ntmps l b (h3 0 args) a_->bd l b->∀i bb s (I:ak->a5->Prop),i.kind≠.early->i.roundOf=p ->
  (∀aj B j az J,(∃y,k7 P fn (c l) (res y) (q y) aj B j)->bZ fn.ntmps j az B J->bd j az->dd l b j az->kO ab I i bb s aj J az)->cc ab I (G (i.N a_ (.code r::bb)) s) b):bk ab S args l res q:=by
 refine⟨⟨fn,pu,bh,by grind⟩,λb A aN aI I s aE=>?_⟩;obtain⟨aK,aH⟩:=b6.get aN;let i:aL:={fn:=S,tmps:=#[],todo:=[],defers:=[],mode:=.run,kind:=.normal,roundOf:=p}
 have bt:Frame.enter P S A.toArray .normal=i.N {tmps:=A.toArray++Array.replicate (fn.ntmps-A.toArray.size) K,defers:=[]} [.code r]:=N1;rw[bt];refine U b {tmps:=A.toArray++Array.replicate (fn.ntmps-A.toArray.size) K,defers:=[]} ⟨by grind,⟨[],C⟩,λo=>?_⟩ aI i [] s I (by simp[i]) rfl ?_
 .rw[yM];simp[g0,dH,sE];have:=aH o;rcases d6 o (c A) with ba|a'
  .exact OH
  rw[w' x];trivial
 rintro aj B j a0 M ⟨Z,ae,aR,bu,bs,av,aw,ax,aA,aa,bl,aC,bo⟩ au Y a1;obtain⟨a,bm⟩:=LC bl;have fin:∀g d,cU a0 d->g.fn=S->g.tmps=M.tmps->g.defers=M.defers->g.mode=.returning->g.kind=.normal->cc ab I (G g s) d:=by
  intro g d e ai ao aq R ar;have T:=au.rely e Y;have D:=Y.rely e;have t:=a1.trans e.aY;obtain⟨a2,aX,a8⟩:=av T;obtain⟨w,ad⟩:=v9 (kR:=d.t) aa D.len;have aZ:=(pz aw ax aX).sub aa ad aA;obtain⟨bn,ah⟩:=l_ aa;obtain⟨d1,d2⟩:=l_ ad;have O:∀L∈w,L∈d.t:=Eo ad;have Q:bd (q Z) {d with t:=w}:=by obtain⟨F,_⟩:=D.sub aa ad a aC;refine⟨F.mem,F.len,λy X L aG h=>?_,F.a3,F.lt,λi cT=>⟨(D.own i cT).1,λL h=>(D.own i cT).2 L (O L h)⟩⟩;exact ey.plain (l:=q Z) (b:={d with t:=w,own:=oS d w}) (az:={d with t:=w}) rfl rfl (vW a X (ca aG)) (F.box y X L aG h)
  have aP:dd l b (q Z) {d with t:=w}:=by refine⟨t.size,t.a6,t.mem,t.bG,λL h i cT=>t.bW _ (O L h) i cT,λbc X L aG h=>?_,t.os,t.tape,t.output,t.own⟩;have aK:bc<c l:=(cO.1 aG).1;obtain⟨bg,bj,bp,bq,br⟩:=t.box bc X L aG h;grind
  obtain⟨aS,a7⟩:=T.defers;refine Ba aS g d _ D.eb E R (by rw[aq];exact a7.gF D) λH k=>?_;have aU:cU {d with t:=w} {H with t:=w}:=by refine⟨rfl,k.E,k.own,k.size,λi cT=>k.a6 i (cT.imp id ?_),k.mem,k.os,k.tape,k.output⟩;rintro⟨L,h,cT⟩;obtain⟨y,aJ,rfl⟩:=hq h;have a6:y<c aR:=N;obtain⟨bx,a9,a4⟩:=d2 y _ (bG a6);obtain⟨bw,a3,W⟩:=ah y _ (bG a6);rw[bG aJ]at a9;cases a9;refine⟨_,_,a4,λaF=>?_,cT⟩;rw[a7.e7 _ aF]at W;cases W;exact vH bm _ (ca a3) rfl
  have aD:eY H {H with t:=w}:=⟨rfl,λ_ _ _ U=>U,λ_ _ _=>rfl,λi u a2 aO=>k.mem i u a2 (by rw[<-k.E];exact aO),λi cT=>cT.imp id λ⟨L,h,cT⟩=>⟨L,by rw[k.t];grind,cT⟩⟩
  refine .aU aD (aE Z _ a2 _ ⟨ai,R,rfl,ar,fn,by grind,λV aQ=>?_⟩ (aZ.mono aU.aY.ext Q.len) (Q.rely aU) (aP.trans aU.aY));show(results fn g.tmps).run P V=_/\∀aj∈(results fn g.tmps).events P V #[],_;rw[ao];have bf:∀i u z,d.E i u=f z->V.cell? ⟨i,u,p⟩=f z:=λi u z U=>aQ i u z (by show H.E i u=f z;rw[k.E];exact U);refine⟨(a8 V bf).1,λaj ae=>?_⟩;obtain⟨i,u,z,aV,aW⟩:=(a8 V bf).2 aj ae;exact⟨i,u,z,aV,by show H.E i u=f z;rw[k.E];exact aW⟩
 rcases ae with rfl|rfl
 .intro pre;exact .ctl Y rfl (λ_=>Et rfl) λd e=>fin _ d e rfl rfl (h2 _) rfl rfl
 exact .ctl Y rfl (λ_=>Er rfl) λd e=>fin _ d e rfl rfl (h2 _) rfl rfl
def bk.hK{w:ag P}{s}{fn}{args}{j:ι->n an}(F:P.funcs[s]?=f fn)(D:(fn.name== "runtime.NumGoroutine")=v)(A:fn.body=f r)(C:args.length<=fn.ntmps)(E:∀i o,bZ fn.ntmps l i (h3 0 args) o->bd l i->∀h u g (k:ak->a5->Prop),h.kind≠.early->h.roundOf=p ->
  (∀q d a b e,(∃t,bX fn (c l) (res t) (j t) q d a)->bZ fn.ntmps a b d e->bd a b->dd l i a b->kO w k h u g q e b)->cc w k (G (h.N o (.code r::u)) g) i):bk w s args l res j:=
 bk.gy F D A C λi o s B h u g k x y z=>E i o s B h u g k x y λq d a b e ⟨t,I⟩=>z q d a b e ⟨t,I.toF⟩
def bk.hh{q:ag P}{b}{fn}{args}{ao:ι->n an}(A:P.funcs[b]?=f fn)(w:(fn.name== "runtime.NumGoroutine")=v)(e:fn.body=f r)(t:args.length<=fn.ntmps)(x:b2 q fn.ntmps r (λu j a=>∃i,k7 P fn l.length (res i) (ao i) u j a) (h3 0 args) l):bk q b args l res ao:=
 bk.gy A w e t λB o b g s z d k h _ y=>x B o b g s z d k h y
def bk.intro{j:ag P}{d}{fn}{args}{a:ι->n an}(B:P.funcs[d]?=f fn)(x:(fn.name== "runtime.NumGoroutine")=v)(g:fn.body=f r)(t:args.length<=fn.ntmps)(y:b2 j fn.ntmps r (λw k b=>∃u,bX fn l.length (res u) (a u) w k b) (h3 0 args) l):bk j d args l res a:=
 bk.hK B x g t λC q d h s A e o i _ z=>y C q d h s A e o i z
def Y.intro{P}{b:ag P}{d}{fn}{r}{args}{l ao}{res}(h:P.funcs[d]?=f fn)(g:(fn.name== "runtime.NumGoroutine")=v)(a:fn.body=f r)(e:args.length<=fn.ntmps)(i:b2 b fn.ntmps r (bX fn l.length res ao) (h3 0 args) l):Y b d args l res ao:=
 (bk.intro h g a e (b2.mono i λ_ _ _ j=>⟨(),j⟩)).toY
inductive ik where
 |code (r:Code)
 |blk (id:Nat)
 |aj (all bs:List ap)
def g{P}(i:ag P)(h:Nat)(a:fv):n ik->fv
 |[],k,b,d=>a k b d
 |.code q::e,.normal,b,d=>b2 i h q (g i h a e) b d
 |.code _::e,k,b,d=>g i h a e k b d
 |.blk id::e,.exit j,b,d=>if j=id then g i h a e .normal b d else g i h a e (.exit j) b d
 |.blk _::e,k,b,d=>g i h a e k b d
 |.aj o l::e,.normal,b,d=>fc i h o l (g i h a e .normal) b d
 |.aj _ _::e,k,b,d=>g i h a e k b d
section
variable {q:ag P}{be:fv}{av:n ik}
def g.aT(a:g q D be [.code r] .normal F l):b2 q D r be F l:=a
theorem g.skip(a:g q D be av .normal F l):g q D be (.code .skip::av) .normal F l:=b2.skip a
theorem g.seq{k X}(e:g q D be (.code k::.code X::av) .normal F l):g q D be (.code (.seq k X)::av) .normal F l:=by refine b2.seq (b2.mono e ?_);intro d a b h;cases d<;>exact h
theorem g.block{id}{r}(e:g q D be (.code r::.blk id::av) .normal F l):g q D be (.code (.block id r)::av) .normal F l:=by refine b2.block (b2.mono e ?_);intro d a b h;cases d<;>exact h
theorem g.ix{id}(a:g q D be av .normal F l):g q D be (.blk id::av) .normal F l:=a
theorem g.region{id}{aH}(a:g q D be (.aj aH.toList aH.toList::av) .normal F l):g q D be (.code (.region id aH v)::av) .normal F l:=b2.region a
theorem g.hM(a:g q D be av .normal F l):g q D be (.aj all []::av) .normal F l:=fc.nil a
def g.dO:∀{av:n ik},be .ret F l->g q D be av .ret F l
 |[],a=>a
 |.code _::av,a=>g.dO (av:=av) a
 |.blk _::av,a=>g.dO (av:=av) a
 |.aj _ _::av,a=>g.dO (av:=av) a
def g.ret(a:be .ret F l):g q D be (.code .ret::av) .normal F l:=b2.ret (g.dO a)
def iP(id:Nat):n ik->Option (n ik)
 |[]=>p
 |.blk b::a=>match af id b with|true=>f a|false=>iP id a
 |_::a=>iP id a
def g.toExit{id}:∀{av e:n ik},iP id av=f e->g q D be e .normal F l->g q D be av (.exit id) F l
 |[],_,a,_=>by cases a
 |.blk i::av,e,a,d=>by
  simp[iP]at a;cases b:af id i with
  |true=>
   simp[b]at a;subst a;have h:=di b;simp[g,h,dH];exact d
  |false=>
   simp[b]at a;have j:id≠i:=λh=>by grind[Nat.beq_refl]
   simp[g,j,dh];exact g.toExit a d
 |.code _::av,e,a,d=>g.toExit (av:=av) a d
 |.aj _ _::av,e,a,d=>g.toExit (av:=av) a d
theorem g.exit{id}{b}(a:iP id av=f b)(d:g q D be b .normal F l):g q D be (.code (.exit id)::av) .normal F l:=b2.exit (g.toExit a d)
theorem g.cond{r}{k X}{i}{o}(b:r=.tmp o)(a:look F o=aw (.bool i))(e:i=m->g q D be (.code k::av) .normal F l)(d:i=v->g q D be (.code X::av) .normal F l):g q D be (.code (.cond r k X)::av) .normal F l:=b2.cond b a e d
def g.loop{bq:Type}{r}(j:bq->Prop)(a:bq->bI)(b:bq->n an)(o:bq->Nat)(k)(w:j k)(t:iD F (a k))(s:b k=l)(round:∀k,j k->g q D (λi d e=>match i with
   |.normal=>∃h,j h/\o h<o k/\iD d (a h)/\e=b h
   |i=>g q D be av i d e) [.code r] .normal (a k) (b k)):g q D be (.code (.loop r)::av) .normal F l:=by refine b2.loop j a b o k w t s λh u=>b2.mono (round h u) ?_;intro i d e x;cases i<;>exact x
end
def eX{a d:Type}:n a->(n a->Option d)->Option d
 |[],b=>b []
 |h::g,b=>eX g λe=>b (h::e)
theorem hv{b:Type}(d)(a:n α->Option b):eX d a=a d:=by
 induction d generalizing a with
 |nil=>rfl
 |cons h g e=>simp[eX,e]
def yA(d:bI)(a:n ap)(g:Nat):Option (Option Bool):=
 match c9 g a with
 |some b=>match b.dst with
  |some e=>match look d e with
   |.p (.R (.c (.bool m)))=>f (f m)
   |.p (.R (.c (.bool v)))=>f (f v)
   |.ae []=>f p
   |_=>p
  |none=>p
 |none=>p
def yB{e}(t:yA F all u=f e){w}(g:bZ D l b F w):yielded all.toArray w.tmps u=e:=by
 unfold yA at t;rw[ln]at t;unfold yielded;cases a:all[u]? with
 |none=>grind
 |some d=>
  simp[a]at t;simp[j9,a,oc];cases j:d.dst with
  |none=>grind
  |some I=>
   simp[j]at t;simp[oc];have r:=g.aK I;have key:∀aa,w.tmps.getD I K=aa->aa≠K->w.tmps[I]?=f aa:=by intro aa aj o;simp[hp]at aj;grind
   split at t
   .exact O_
   .exact O_
   .rename_i B;cases t;rw[B]at r;obtain⟨A,n,k⟩:=r;have h:A=[]:=by cases A with
     |nil=>rfl
     |cons _ _=>exact k.elim
    subst h;simp[hp]at n;grind
   grind
def y0(l:n (Nat×bv))(e:bI)(d:n an)(I:ap):Option (y×n an×n Prop):=
 match I.op with
 |.move k|.assign k=>f (bF e k,d,[])
 |.pick u t z=>match bF e u with
  |.p (.R (.c (.bool m)))=>f (bF e t,d,[])
  |.p (.R (.c (.bool v)))=>f (bF e z,d,[])
  |_=>p
 |.binOp q _ k E _=>match bF e k,bF e E with
  |.p (.R (.c t)),.p (.R (.c z))=>match xu q t z with
   |some (u,x)=>f (aw u,d,x)
   |none=>p
  |_,_=>p
 |.unOp q _ k=>match bF e k with
  |.p (.R (.c t))=>match zL q t with
   |some u=>f (aw u,d,[])
   |none=>p
  |_=>p
 |.extract k C=>match bF e k with
  |.ae D=>match c9 C D with
   |some o=>f (.p o,d,[])
   |none=>p
  |_=>p
 |.alloc r=>match b1 l r with
  |some i=>eX (d++[.cells r (i.zero.map Q.c)]) λg=>f (aD (c d) 0,g,[])
  |none=>p
 |.box r k=>match mx (bF e k)with
  |some a=>eX (d++[.cells r a]) λg=>f (aD (c d) 0,g,[])
  |none=>p
 |.load h k=>match b1 l h with
  |some i=>match bF e k with
   |.p (.R (.ptr j b))=>match c9 j d with
    |some (.cells _ a)=>match hf i (fU b a)with
     |some o=>f (.p o,d,[])
     |none=>p
    |_=>p
   |.p (.R (.c (.Q a)))=>match hf i (a.map Q.c)with
    |some o=>f (.p o,d,[])
    |none=>p
   |_=>p
  |none=>p
 |.store h k E=>match b1 l h with
  |some i=>match bF e k with
   |.p (.R (.ptr j b))=>match c9 j d with
    |some (.cells r a)=>match mx (bF e E)with
     |some new=>match af (c new) i.size with
      |true=>match iV b new a with
       |some w=>eX (c'.cu j (.cells r w) d) λg=>f (.any,g,[])
       |none=>p
      |false=>p
     |none=>p
    |_=>p
   |_=>p
  |none=>p
 |.fieldAddr h k B=>match lk l h B with
  |some (s,_)=>match bF e k with
   |.p (.R (.ptr j b))=>f (aD j (b+s),d,[])
   |.p (.R (.c (.Q a)))=>f (aw (.Q (fU s a)),d,[])
   |_=>p
  |none=>p
 |.field h k B=>match lk l h B with
  |some (s,C)=>match bF e k with
   |.p (.agg a)=>match hf C (fU s a)with
    |some o=>f (.p o,d,[])
    |none=>p
   |_=>p
  |none=>p
 |.nilCheck k=>match bF e k with
  |.p (.R (.ptr j b))=>f (aD j b,d,[])
  |.p (.R (.c (.Q a)))=>f (aw (.Q a),d,[])
  |_=>p
 |.build h parts=>match xy l (bF e) h parts.toList with
  |some a=>f (.p (.agg a),d,[])
  |none=>p
 |.buildSlice h F parts=>match rW l (bF e) h F parts.toList with
  |some (s,A)=>f (aw (.C m s F λi=>A.getD i []),d,[])
  |none=>p
 |_=>p
theorem DT{ad}(aV:bn P ad){k}(a:y0 ad F l s=f (k,ao,cg))(n:U cg):a0 P s (bF F) l k ao:=by
 unfold y0 at a;split at a
 .grind [a0.move]
 .grind [a0.assign]
 .rename_i r q i b;split at a
  .rename_i j;cases a;exact a0.pick b j
  .rename_i j;cases a;exact a0.pick b j
  grind
 .grind [a0.binOp]
 .grind [a0.unOp]
 .grind [a0.extract,er]
 .grind [hv,a0.alloc]
 .grind [hv,a0.box]
 .rename_i o X b;split at a
  .grind [a0.hp,er,a0.hq]
  grind
 .rename_i o X w b;split at a
  .rename_i e bp;split at a
   .rename_i d off g;split at a
    .grind [hv,mU,a0.store,er,Nat.eq_of_beq_eq_true]
    grind
   grind
  grind
 .rename_i o X t b;split at a
  .rename_i h u B;split at a
   .rename_i d off g;cases a;exact a0.g8 aV b g B
   .grind [a0.g9]
   grind
  grind
 .grind [a0.field]
 .grind [a0.hD,a0.hE]
 .grind [a0.build]
 .grind [a0.buildSlice]
 grind
def fg(a:Nat):Option Nat->Bool
 |some b=>ay (b+1) a
 |none=>m
def lg{b}(e:fg D b=m):∀a,b=f a->a<D:=by intro a d;subst d;exact fe e
theorem iZ(b:s.guard=p){a:Act}:aU s (yielded all.toArray a.tmps)=m:=by simp[aU,b]
section
variable {ad:n (Nat×bv)}
def kM(a:aA->y):Option aA->Option (Option Int)
 |none=>f p
 |some d=>match a d with
  |.p (.R (.c (.int _ b)))=>f (f b)
  |_=>p
def kh{a:aA->Z}(n:∀d,bx l b (a d) (η d)){k}{i}(e:kM η k=f i):(k.map a=p/\i=p)∨∃h g,k.map a=f (.int h g)/\i=f g:=by
 cases k with
 |none=>cases e;grind
 |some d=>
  right;simp[kM]at e;split at e
  .rename_i h g j;cases e;have:=n d;rw[j]at this;have:=b8 this;generalize o:a d=q at this;cases this;grind
  grind
def bU(a:Nat):Option Int->Nat
 |none=>a
 |some b=>b.toNat
def ji(d:Nat):Option Int->Option Int->n Prop
 |none,p=>[]
 |some b,p=>[0<=b,b<=d]
 |none,f a=>[0<=a,a<=d]
 |some b,f a=>[0<=b,b<=a,a<=d]
def v6{kp}{cap}(t:j<=cap){eZ bp}{d a}(n:(eZ=p/\d=p)∨∃k h,eZ=f (.int k h)/\d=f h)(o:(bp=p/\a=p)∨∃k h,bp=f (.int k h)/\a=f h)(b:U (ji j d a))(e):(aX kp j cap eZ bp p).run P e=.ok (bU 0 d,bU j a,cap) e/\bU 0 d<=bU j a/\bU j a<=j:=by
 rcases n with⟨rfl,rfl⟩|⟨l,d,rfl,rfl⟩<;>rcases o with⟨rfl,rfl⟩|⟨r,a,rfl,rfl⟩
 .exact⟨by simp[aX,bU],by simp[bU],by simp[bU]⟩
 .obtain⟨g,i⟩:0<=a/\a<=(j:Int):=b;refine⟨?_,by simp[bU],by simp[bU];omega⟩;simp[aX,bU,run_sliceBound (P:=P) e r a cap _ g x]
 .obtain⟨g,i⟩:0<=d/\d<=(j:Int):=b;refine⟨?_,by simp[bU];omega,by simp[bU]⟩;simp[aX,bU,run_sliceBound (P:=P) e l d j _ g i]
 obtain⟨g,i,s⟩:0<=d/\d<=a/\a<=(j:Int):=b;have q:=rr x;refine⟨?_,by simp[bU];omega,by simp[bU];omega⟩;simp[aX,bU,run_sliceBound (P:=P) e r a cap _ x x,run_sliceBound (P:=P) e l d a.toNat _ g x]
def li(g)(h)(e)(a:Nat)(code)(b:0<=e)(d:e<=(a:Int))(V):(Instr.sliceBound (.int h e) a code).events P g V=V:=by simp[Instr.sliceBound,asIntOf,b,d]
def vc{kp}{cap}{eZ bp}{d a}(y:j<=cap)(q:(eZ=p/\d=p)∨∃k h,eZ=f (.int k h)/\d=f h)(s:(bp=p/\a=p)∨∃k h,bp=f (.int k h)/\a=f h)(e:U (ji j d a))(b)(V):(aX kp j cap eZ bp p).events P b V=V:=by
 have u:∀kp (n:Option Z) (o:Nat) b V,n=p->(aX kp j cap p p p).events P b V=V:=λkp n o b V _=>by simp[aX]
 rcases q with⟨rfl,rfl⟩|⟨l,d,rfl,rfl⟩<;>rcases s with⟨rfl,rfl⟩|⟨i,a,rfl,rfl⟩
 .simp[aX]
 .obtain⟨g,r⟩:0<=a/\a<=(j:Int):=e;simp[aX,li (P:=P) b i a cap _ g x]
 .obtain⟨g,r⟩:0<=d/\d<=(j:Int):=e;simp[aX,li (P:=P) b l d j _ g r]
 obtain⟨g,r,w⟩:0<=d/\d<=a/\a<=(j:Int):=e;have t:=rr x;simp[aX,run_sliceBound (P:=P) b i a cap _ x x,li (P:=P) b i a cap _ x x,li (P:=P) b l d a.toNat _ g x]
def mz(a:n UInt8):Option Int->Option Int->n UInt8
 |none,p=>a
 |some d,p=>a.drop d.toNat
 |none,f b=>a.take b.toNat
 |some d,f b=>(a.take b.toNat).drop d.toNat
theorem a0.jZ(aV:bn P ad){eZ bp}(A:s.op=.slice o k eZ bp p){e}(F:b1 ad o=f e)(K:e.desc=.string){b}{d n}(M:η k=aw (.T b))(q:kM η eZ=f d)(C:kM η bp=f n)(E:U (ji (c b) d n)):a0 P s η l (aw (.T (mz b d n))) l:=by
 refine .aW λi u D h=>?_;have g:=h k;rw[M]at g;replace g:=b8 g;generalize w:u k=O at g;cases g with
 |@T a _ B Q=>
 have z:a.size=c b:=by rw[<-B];exact nd.symm
 obtain⟨t,x,y⟩:=v6 (P:=P) (kp:=v) (j:=a.size) (cap:=a.size) (bE _) (kh h q) (kh h C) N i.a;have r:=(aV o e F).run_underlying (J:=i.a);rw[K]at r;have I:=vc (P:=P) (kp:=v) (j:=a.size) (cap:=a.size) (bE _) (kh h q) (kh h C) N i.a;refine⟨.string (a.extract (bU 0 d) (bU a.size n)),?_,Rd.T ?_ ?_,by simp[ac,A,w,Instr.sliceAt,r,Instr.slice,I]⟩
 .simp[ac,A,w,Instr.sliceAt,r,Instr.slice,t]
 .rw[Lib.extract_data,B,z];rw[z]at x y;cases d<;>cases n<;>simp only[mz,bU]at x y⊢
  .simp
  .simp
  .grind [List.take_of_length_le]
  rw[List.drop_take]
 cases d<;>cases n<;>simp[mz,sA,List.length_take]<;>omega
def fA(d:Nat)(a:Nat->n O):Nat->n O:=λb=>a (d+b)
def xX(eU:Bool):Option Int->Bool
 |none=>eU
 |some _=>v
theorem a0.jY(aV:bn P ad){eZ a}(S:s.op=.slice o k eZ a p){e a4}(ah:b1 ad o=f e)(ai:e.desc=.slice W)(aj:b1 ad W=f a4){eU}{d r}(Z:∀X Y,bx l X Y (η k)->Rd X.E Y (.C eU a4.size j V))(u:kM η eZ=f d)(T:kM η a=f r)(z:U (ji j d r)):
  a0 P s η l (aw (.C (xX eU r) a4.size (bU j r-bU 0 d) (fA (bU 0 d) V))) l:=by
 refine .aW λg ak ae b=>?_;have n:=Z g _ (b k);obtain⟨N,i,A,M,R,Q,O,G,ag⟩:=n.b3;rw[M]at n;obtain⟨t,an,y⟩:=v6 (P:=P) (kp:=m) R (kh b u) (kh b T) z g.a;have F:=(aV o e ah).run_underlying (J:=g.a);rw[ai]at F;refine⟨.slice (if i=bU 0 d then N else N.map (·.add (bU 0 d*a4.size))) (bU j r-bU 0 d) (i-bU 0 d),?_,?_,by simp[ac,S,M,Instr.sliceAt,F,Instr.slice,t,vc (P:=P) (kp:=m) R (kh b u) (kh b T) z g.a]⟩
 .simp[ac,S,M,Instr.sliceAt,F,Instr.slice,t,(aV W a4 aj).bk]
 cases n with
 |C aa D ab _ _ _ K I w B=>
  refine Rd.C aa (D+bU 0 d*a4.size) (λe C=>ab (bU 0 d+e) C) x x ?_ (λe a=>K _ x) (λao=>?_) (λe a C E q=>?_) (λe a C E q=>B _ x C E q)
  .intro h;cases r with
   |none=>simp[xX]at h;have:=O h;simp[bU];omega
   |some r=>cases h
  .rw[bl x,I x];simp[gQ]
  have:=w (bU 0 d+e) x C E q;grind
def a0.iE(aV:bn P ad){i dst}(w:s.op=.convert i dst k){e cd}{h b}{u}(n:b1 ad i=f e)(x:b1 ad dst=f cd)(z:cd.desc=.int b)(A:η k=aw (.int h u))(d:a7 b u):
  a0 P s η l (aw (.int b u)) l:=by refine .aW λg q y o=>?_;have a:=o k;rw[A]at a;replace a:=b8 a;generalize r:q k=B at a;cases a;have t:=(aV i e n).run_underlying (J:=g.a);have j:=(aV dst cd x).run_underlying (J:=g.a);rw[z]at j;exact⟨.int b u,by simp[ac,w,r,convert,t,j,Conv.intToInt,sg d],Rd.int d,by simp[ac,w,r,convert,t,j,Conv.intToInt]⟩
theorem a0.iG(aV:bn P ad){g dst}(t:s.op=.convert g dst k){e cd}{b}(i:b1 ad g=f e)(w:b1 ad dst=f cd)(x:cd.desc=.string)(y:η k=aw (.T b)):
  a0 P s η l (aw (.T b)) l:=by refine .aW λd n u j=>?_;have a:=j k;rw[y]at a;have r:=b8 a;generalize o:n k=z at r;cases r;have q:=(aV g e i).run_underlying (J:=d.a);have h:=(aV dst cd w).run_underlying (J:=d.a);rw[x]at h;exact⟨_,by simp[ac,t,o,convert,q,h];rfl,by grind,by simp[ac,t,o,convert,q,h]⟩
def uX(a:Nat->n O):Nat->Nat->Option (n UInt8)
 |_,0=>f []
 |b,d+1=>match a b with
  |[.int .u8 g]=>match uX a (b+1) d with
   |some e=>f (UInt8.ofNat g.toNat::e)
   |none=>p
  |_=>p
def G8{bD}{s:Nat->n O}:∀{h e:Nat}{i:n UInt8}{A:n Z},uX s e h=f i->c A=h->(∀g,g<h->∀j,(s (e+g))[0]?=f j->∃l,A[g]?=f l/\Rd bD l j) ->
  ∃b:n Int,A=b.map (Value.int .u8)/\i=b.map (λk=>UInt8.ofNat k.toNat)
 |0,e,i,A,d,o,_=>by cases d;exact⟨[],by grind,a⟩
 |h+1,e,i,[],d,o,_=>by grind
 |h+1,e,i,l::A,d,o,q=>by
  simp[uX]at d;split at d
  .rename_i k C;split at d
   .rename_i D t;cases d;obtain⟨E,r,u⟩:=q 0 x (.int .u8 k) N
    simp at r;subst r;cases u;obtain⟨b,z,y⟩:=G8 (A:=A) t N (λg w j B=>by
     have:=q (g+1) x j N
     simpa using this)
    exact⟨k::b,by grind,by grind⟩
   grind
  grind
def Mg{P}(e){g:Z->ByteArray->Sem (ForInStep ByteArray)}(h:∀d b,g (.int .u8 d) b=pure (.yield (b.push (UInt8.ofNat d.toNat)))):∀(a:n Int)b,
  (forIn (m:=Sem) (a.map (Value.int .u8)) b g).run P e=.ok ⟨b.data++(a.map λd=>UInt8.ofNat d.toNat).toArray⟩ e
 |[],b=>by simp
 |d::a,b=>by simp only[mr,List.forIn_cons,h,cI,d_,c7];rw[Mg e h a];congr 2;apply Array.ext';simp[ByteArray.push]
end
def aJ(o:ag P)(w:Nat)(a:n ap)(s:ap)(u:bI)(i:n an)(x:y)(e:n an):Prop:=
  ∀h j,bZ w i h u j->bd i h->∀(k:aL) r g (l:ak->a5->Prop) q b,k.kind≠.early->a.toArray[q]?=f s ->
    (∀t d,bx e d t x->bd e d->dd i h e d->cc o l (G (k.N (j.put s.dst t) (.inRegion a.toArray b::r)) g) d)->cc o l (G (k.N j (.inRegion a.toArray (q::b)::r)) g) h
section
variable {q:ag P}{dF:bI}{k:y}
theorem aJ.a1(N:∀l B e,bZ D l B F e->aU s (yielded all.toArray e.tmps)=m)(J:a0 P s (bF F) l k ao):aJ q D all s F l k ao:=by
  intro B e x i R T I Q S w t u h;refine rB t u (N _ _ _ x) λo j=>?_;have n:=i.rely j;obtain⟨O,b,g,d,r,z,M⟩:=J o e.eval n (eO (x.rely j i));have y:=j.aY.trans (z.too' n);have A:kG o b ((ac e.eval s).events P o.a #[]):=⟨⟨l,ao,n,r,z⟩,M⟩;cases O with
  |value E=>exact⟨_,b,E,g,.inl rfl,A,h E b d r y⟩
  |skip=>simp[AE]at d;subst d;exact⟨_,b,K,g,.inr ⟨a,a⟩,A,h K b C r y⟩
  |_=>exact d.elim
def aJ.hN(n:∀l j d,bZ D l j F d->aU s (yielded all.toArray d.tmps)=v):aJ q D all s F l (.ae []) l:=by intro j d r b w y k u x h t g e;exact .ctl b a (λ_=>acV g (n _ _ _ r)) λo i=>e K o ⟨[],a,C⟩ (b.rely i) i.aY
def fc.di{aP:bI->n an->Prop}(N:aJ q D all s F l k ao)(K:∀r,s.dst=f r->r<D)(Q:fc q D all bs aP (fW s.dst k F) ao):fc q D all (s::bs) aP F l:=by
  intro S E u b C i e B idx g a x;cases idx with
  |nil=>exact a.elim
  |cons O idx=>
  refine N S E u b C i e B O idx g a.1 λT z y h d=>Q z _ ?_ h C i e B idx g a.2 λI o A t R J w j=>x I o A t R J w (d.trans j);cases M:s.dst with
  |none=>exact u.mono d b.len
  |some r=>exact(u.mono d b.len).put (K r M) y
end
abbrev bK:=n y->n an->Option (y×n an×n Prop)
def tp:n (Nat×bK)->Nat->Option bK
  |[],_=>p
  | (d,b)::e,a=>cond (af d a) (f b) (tp e a)
def bM(g:ag P)(h:a3)(i:bK):Prop:=∀args e b d a,i args e=f (b,d,a)->U a->Y g h args e b d
def a9(e:ag P)(a:n (Nat×bK)):Prop:=∀b d,tp a b=f d->bM e b d
def a9.nil{a:ag P}:a9 a []:=λ_ _ b=>by cases b
def a9.cons{b:ag P}{d}{B}{CT}(j:bM b d B)(i:a9 b CT):a9 b ((d,B)::CT):=by
  intro g h a;simp[tp]at a;cases e:af d g with
  |true=>grind[Nat.eq_of_beq_eq_true]
  |false=>rw[e]at a;exact i g h a
def oe:Q->n Nat->n Nat
  |.ptr b _,a=>cond (ei b a) a (a++[b])
  |.w b _ _ _,a=>cond (ei b a) a (a++[b])
  |.aV b,a=>cond (ei b a) a (a++[b])
  |.S b _,a=>cond (ei b a) a (a++[b])
  |_,a=>a
def G6:n Q->n Nat->n Nat
  |[],a=>a
  |b::d,a=>G6 d (oe b a)
def qm:y->n Nat->n Nat
  |.p (.R d),a=>oe d a
  |.p (.agg b),a=>G6 b a
  |_,a=>a
def G5:n y->n Nat->n Nat
  |[],a=>a
  |b::d,a=>G5 d (qm b a)
def th(b:Nat):n Nat->Nat->Option Nat
  |[],_=>p
  |d::e,a=>match af d b with|true=>f a|false=>th b e (a+1)
def Kh{d}:∀{b:n Nat} {e g:Nat},th d b e=f g->e<=g/\b[g-e]?=f d
  |[],_,_,a=>by cases a
  |i::l,e,g,a=>by
    simp[th]at a;cases h:af i d with
    |true=>simp_all
    |false=>
      rw[h]at a;obtain⟨j,k⟩:=Kh a;grind
def tY(a:n Nat):Q->Option Q
  |.ptr d e=>match th d a 0 with|some b=>f (.ptr b e)|none=>p
  |.aV d=>match th d a 0 with|some b=>f (.aV b)|none=>p
  |.S d g=>match th d a 0 with|some b=>f (.S b g)|none=>p
  |.w _ _ _ _=>p
  |.c h=>f (.c h)
  |.any=>f .any
def zM(a:n Nat):n Q->Option (n Q)
  |[]=>f []
  |b::g=>match tY a b with
    |some d=>match zM a g with
      |some e=>f (d::e)
      |none=>p
    |none=>p
def E3(a:n Nat):y->Option y
  |.p (.R e)=>match tY a e with|some b=>f (.p (.R b))|none=>p
  |.p (.agg d)=>match zM a d with|some b=>f (.p (.agg b))|none=>p
  |.ae _=>p
  |.any=>f .any
def tZ(a:n Nat):n y->Option (n y)
  |[]=>f []
  |b::g=>match E3 a b with
    |some d=>match tZ a g with
      |some e=>f (d::e)
      |none=>p
    |none=>p
def Ns{b i}(a:tY aS b=f i):kv aS i=b/\l2 (c aS) i=m:=by
  cases b with
  |ptr d k=>
    simp[tY]at a;split at a
    · rename_i e bp
      cases a;exact FE
    grind
  |aV d=>
    simp[tY]at a;split at a
    · rename_i e bp
      cases a;exact FE
    grind
  |S d l=>
    simp[tY]at a;split at a
    · rename_i e bp
      cases a;exact FE
    grind
  |w d h j g=>cases a
  |c n=>cases a;exact cQ
  |any=>cases a;exact cQ
def Nv{aS}:∀{d b:n Q},zM aS d=f b->qU aS b=d/\lp (c aS) b=m
  |[],b,a=>by cases a;exact cQ
  |d::o,b,a=>by
    simp[zM]at a;split at a
    · rename_i q k
      split at a
      · rename_i l e
        cases a;obtain⟨i,g⟩:=Ns k;obtain⟨j,h⟩:=Nv e;exact⟨by simp[qU,i,j],by simp[lp,g,h]⟩
      grind
    grind
def ae5{b i}(a:E3 aS b=f i):e' aS i=b/\hN (c aS) i=m:=by
  unfold E3 at a;split at a
  · rename_i b
    split at a
    · rename_i j e;cases a;obtain⟨d,h⟩:=Ns e;exact⟨by simp[e',pI,d],by exact cQ⟩
    grind
  · rename_i g
    split at a
    · rename_i j e;cases a;obtain⟨d,h⟩:=Nv e;exact⟨by simp[e',pI,d],by exact cQ⟩
    grind
  · cases a
  · cases a;exact cQ
def Nu{aS}:∀{d b:n y},tZ aS d=f b->gr aS b=d/\g7 (c aS) b=m
  |[],b,a=>by cases a;exact cQ
  |d::o,b,a=>by
    simp[tZ]at a;split at a
    · rename_i q k
      split at a
      · rename_i l e
        cases a;obtain⟨i,g⟩:=ae5 k;obtain⟨j,h⟩:=Nu e;exact⟨by simp[gr,i,j],by simp[g7,g,h]⟩
      grind
    grind
def BV(j:n (Nat×bK))(q:bI)(k:n an)(l:aA)(o:n aA):Option (y×n an×n Prop):=
  match gR (bF q l)with
  |none=>p
  |some (r,g)=>match tp j r with
    |none=>p
    |some s=>
      let args:=lb (o.map (bF q)++e4 g);let a:=G5 args []
      match tZ a args with
      |none=>p
      |some d=>match dy a k with
        |none=>p
        |some e=>match s d e with
          |none=>p
          |some (i,b,h)=>match ew e,ew b,e_ a,ay (c a) (c b) with
            |true,m,m,m=>f (e' (a++gL (c k) (c b-c a)) i,c' a b k,h)
            |_,_,_,_=>p
theorem aJ.gU{J:ag P}{CT}(o:a9 J CT)(H:∀l g b,bZ D l g F b->aU s (yielded all.toArray b.tmps)=m)(e:s.op=.call {callee:=.value cP,args:=ah,argTypes:=dn}){i}(h:gR (bF F cP)=f (i,cap)){B}(aw:tp CT i=f B){aO}{res}(O:tZ aS (lb (ah.toList.map (bF F)++e4 cap))=f cR)(X:dy aS l=f de)(aq:B cR de=f (res,aO,cg))(Z:ew de=m)(av:ew aO=m)(y:e_ aS=m)(Y:c aS<=c aO)(ao:U cg):aJ J D all s F l (e' (aS++gL (c l) (c aO-c aS)) res) (c' aS aO l):=by
  obtain⟨ak,W⟩:=Nu O;intro g b A t az aj ab ax aA E r u q;have S:=o i B aw _ _ _ _ _ aq ao;have T:=eO A cP;unfold gR at h;split at h
  case h_2=>cases h
  case h_1 vf u2 he=>
    cases h;rw[he]at T;have M:=b8 T;generalize G:b.eval cP=ae at M;cases M with
    |fn k a x d ad j ai n ar C=>
      have Q:k=[]:=jF x;subst Q;have an:b6 l g a (e4 cap):=qo (λz aa w=>⟨j z,n z N,C z aa w⟩) d;have au:b6 l g (ah.toList.map b.eval++a) (gr aS cR):=by rw[ak];exact u1 ((na (eO A) ah.toList).append an)
      obtain⟨fn,V,R,K⟩:=S.1;exact GJ r u (H _ _ _ A) t (λI=>(mT e V R K G I).1) (λI=>(mT e V R K G I).2) S au W X Z av y Y q
theorem aJ.call{b:ag P}{CT}(g:a9 b CT){k}(q:∀l j d,bZ D l j F d->aU s (yielded all.toArray d.tmps)=m)(i:s.op=.call {callee:=.value cP,args:=ah,argTypes:=dn})(a:BV CT F l cP ah.toList=f (k,ao,cg))(n:U cg):aJ b D all s F l k ao:=by
  unfold BV at a;split at a
  · cases a
  rename_i r e h;split at a
  · cases a
  rename_i t o;simp only at a;split at a
  · cases a
  grind[aJ.gU,Nat.le_of_ble_eq_true]
def L9{g}(e:hN 0 g=m):e' [] g=g:=by
  have j:∀{a:Q},l2 0 a=m->kv [] a=a:=by intro a d;cases a<;>simp[l2]at d<;>first|rfl|simp_all
  have o:∀{b:n Q},lp 0 b=m->qU [] b=b:=by
    intro b;induction b with
    |nil=>exact cQ
    |cons a q h=>
      intro e;simp[lp]at e;cases d:l2 0 a with
      |false=>grind
      |true=>simp[d]at e;simp[qU,j d,h e]
  have i:∀{a:E1},px 0 a=m->pI [] a=a:=by
    intro a d;cases a with
    |R a=>simp[pI,j d]
    |agg l=>simp[pI,o d]
  have k:∀{b:n E1},oH 0 b=m->tG [] b=b:=by
    intro b;induction b with
    |nil=>exact cQ
    |cons a q h=>
      intro e;simp[oH]at e;cases d:px 0 a with
      |false=>grind
      |true=>simp[d]at e;simp[tG,i d,h e]
  cases g with
  |p s=>simp[e',i e]
  |ae r=>simp[e',k e]
  |any=>rfl
def BW(g:n (Nat×bK))(j:bI)(h:aA)(i:n aA):Option (y×n Prop):=
  match gR (bF j h)with
  |none=>p
  |some (k,d)=>match tp g k with
    |none=>p
    |some l=>match tZ [] (lb (i.map (bF j)++e4 d))with
      |none=>p
      |some a=>match l a []with
        |some (b,[],e)=>match hN 0 b with
          |true=>f (b,e)
          |false=>p
        |_=>p
theorem aJ.iC{P:aI}{o:ag P}{D}{all}{F}{l}{s}{CT}(h:a9 o CT){cP}{ah}{dn}{k}{cg}(y:∀l z q,bZ D l z F q->aU s (yielded all.toArray q.tmps)=m)(j:s.op=.call {callee:=.value cP,args:=ah,argTypes:=dn})(b:AM.BW CT F cP ah.toList=f (k,cg))(u:U cg):aJ o D all s F l k l:=by
  unfold AM.BW at b;split at b
  · cases b
  rename_i A r i;split at b
  · cases b
  rename_i B w;split at b
  · cases b
  rename_i g e;split at b
  case h_2=>cases b
  rename_i t n d;split at b
  case h_2=>cases b
  rename_i x;cases b;have:=aJ.gU (l:=l) h y j i w e a d a a a (bE _) u;simpa[gL,L9 x,c']using this
structure mh(D:Nat)(l:n an)(b:a5)(Gk:Nat->y)(w:Act):Prop where
 size:w.tmps.size=D
 defers:∃nH,i_ l b w.defers nH
 aK:∀o,bx l b (w.tmps.getD o K) (Gk o)
def mh.fo{e:Nat->y}{g}(d:mh D l b e g)(i:∀a l b h,bx l b h (e a)->bx l b h (look F a)):bZ D l b F g:=
 ⟨d.size,d.defers,λa=>i a _ _ _ (d.aK a)⟩
def eQ(a:Edge):Bool:=Region.binds .any a
structure rk{P:aI}(q:ag P)(D:Nat)(aH:Array ap)(F:bI)(bq:Nat->n an)(k:Nat->y)(S:Nat->bI)(qA r:Nat->Bool)(z:Nat->Nat->Prop)(idx:Nat->Option Nat)(dF:bI):Prop where
 kk:P.follows Departure.mixedOrders=m
 cO:∀e s,aH[e]?=f s->∀aj∈s.after,eQ aj=m->aj.on<e
 eS:∀e s I,aH[e]?=f s->s.dst=f I->idx I=f e/\I<D
 dT:∀I e,idx I=f e->∃s,aH[e]?=f s/\s.dst=f I
 aW:∀e,r e=v->bq (e+1)=bq e
 R:∀e s,aH[e]?=f s->qA e=v->aJ q D aH.toList s (S e) (bq e) (k e) (bq (e+1))
 all:∀e s,aH[e]?=f s->qA e=m->r e=v/\∀h,aJ q D aH.toList s (S e) (bq h) (k e) (bq h)
 fy:∀L:Nat->Prop,(∀e s,aH[e]?=f s->L e->∀aj∈s.after,eQ aj=m->L aj.on)->∀e u,z e u->(L e->L u)/\∃s,aH[e]?=f s/\((∀aj∈s.after,eQ aj=m->L aj.on)->L u)
 comp:∀e ae,e<aH.size->ae<aH.size->r ae=m->e≠ae->qA e=v->(ae<e/\z e ae)∨(e<ae/\z ae e)
 eR:∀e s,aH[e]?=f s->∀o l b aa,bx l b aa (match idx o with|some u=>(if ∃aj∈s.after,eQ aj=m/\aj.on=u then k u else if ∃vJ,aH[u]?=f vJ/\∃aj∈vJ.after,eQ aj=m/\aj.on=e then look F o else .any)|none=>look F o)->bx l b aa (look (S e) o)
 fin:∀o l b aa,bx l b aa (match idx o with|some u=>k u|none=>look F o)->bx l b aa (look dF o)
open Classical in
noncomputable def gz(b:bI)(e:Nat->y)(idx:Nat->Option Nat)(L:Array Bool)(a:Nat):y:=
 match idx a with
 |some d=>if L.getD d v=m then e d else look b a
 |none=>look b a
theorem pA:e∈aR .any aH L↔∃h,aH[e]?=f h/\L.getD e m=v/\∀a∈h.after,eQ a=m->L.getD a.on v=m:=by
 unfold aR;simp[kJ,sD,cC,j'];constructor
 .rintro⟨b,B,i⟩;rw[iF b]at i;simp only[lJ,ir,Array.all_eq_true',jG,j']at i;refine⟨aH[e],iF b,B,λa d g=>?_⟩;rcases i a d with k|k
  .unfold eQ at g;grind
  grind
 rintro⟨h,b,B,i⟩;have j:e<aH.size:=(je.1 b).1;refine⟨j,B,?_⟩;rw[b];simp only[lJ,ir,Array.all_eq_true',jG,j'];intro a d;cases g:Region.binds .any a with
 |false=>grind
 |true=>exact .inr (i a d g)
section
variable {q:ag P}{dF:bI}{bq:Nat->n an}{k:Nat->y}{S:Nat->bI}{qA r:Nat->Bool}{z:Nat->Nat->Prop}{idx:Nat->Option Nat}
def rk.chain(j:rk q D aH F bq k S qA r z idx dF){e}:∀{h:Nat},e<=h->(∀b,e<=b->b<h->r b=v)->bq h=bq e
 |0,g,_=>by grind
 |h+1,g,i=>by
  rcases d6 h e with a|a
  .grind
  rw[j.aW h (i h a x),j.chain (h:=h) a (λb d l=>i b d x)]
def rk.last(j:rk q D aH F bq k S qA r z idx dF)(E:∀s,s<aH.size->L.getD s v=m){h}{e}{n}(l:h<=aH.size)(K:∀i,i<aH.size->r i=m->(L.getD i v=m↔i<h))(o:mh D (bq h) b (gz F k idx L) n)(a:bd (bq h) b)(g:dd (bq 0) e (bq h) b):
  bZ D (bq aH.size) b dF n/\bd (bq aH.size) b/\dd (bq 0) e (bq aH.size) b:=by
 have x:bq aH.size=bq h:=j.chain l (λI y A=>by grind);rw[<-x]at o a g;refine⟨o.fo λu w b C t=>j.fin u w b C ?_,a,g⟩;unfold gz at t;cases d:idx u with
 |none=>grind
 |some J=>
  simp only[d]at t⊢;obtain⟨M,B,_⟩:=j.dT _ _ d;grind
theorem mG(a:e<L.size):(L.setIfInBounds e m).getD u v=m↔u=e∨L.getD u v=m:=FX
theorem xW:∀{d:n Bool}{e:Nat},d[e]?=f v->c ((d.set e m).filter (λa=>!a))+1=c (d.filter (λa=>!a))
 |[],_,b=>by grind
 |a::g,0,b=>by grind
 |a::g,e+1,b=>by simp at b;have:=xW (d:=g) b;cases a<;>simp[List.set_cons_succ]<;>omega
theorem DA(o)(L):Region.linearise.go .any aH 0 o L []=[]:=by simp[Region.linearise.go]
theorem vB(j o)(L):Region.linearise.go .any aH (j+1) o L []=match(aR .any aH L)[o % c (aR .any aH L)]? with
  |some a=>a::Region.linearise.go .any aH j (o / c (aR .any aH L)) (L.setIfInBounds a m) []
  |none=>[]:=by
 simp only[Region.linearise.go]
 change (match(aR .any aH L)[o % c (aR .any aH L)]? with
   |some a=>Region.linearise.go .any aH j (o / c (aR .any aH L)) (L.setIfInBounds a m) [a]
   |none=>[].reverse)=_
 grind[linearise_go_acc]
def rk.eT(t:rk q D aH F bq k S qA r z idx dF){ab:ak->a5->Prop}{s:aL}{A}(I:s.kind≠.early){cG}(aM:∀b d,bZ D (bq aH.size) b dF d->bd (bq aH.size) b->dd (bq 0) cG (bq aH.size) b->cc q ab (G (s.N d A) ai) b):
  ∀M L,L.size=aH.size->c (L.toList.filter (λs=>!s))<=M ->
   (∀e B,aH[e]?=f B->L.getD e v=m->∀n∈B.after,eQ n=m->L.getD n.on v=m) ->
   ∀j b d,j<=aH.size->(∀g,g<aH.size->r g=m->(L.getD g v=m↔g<j))->mh D (bq j) b (gz F k idx L) d->bd (bq j) b->dd (bq 0) cG (bq j) b ->
   ∀l,cc q ab (G (s.N d (.inRegion aH (Region.linearise.go .any aH M l L [])::A)) ai) b:=by
 have fin:∀b d,bZ D (bq aH.size) b dF d->bd (bq aH.size) b->dd (bq 0) cG (bq aH.size) b->cc q ab (G (s.N d (.inRegion aH []::A)) ai) b:=
  λb d jD jd w6=>.ctl jd a (λ_=>v_) λaW aF=>aM aW d (jD.rely aF jd) (jd.rely aF) (w6.trans aF.aY)
 intro M;induction M with
 |zero=>
  intro L aU aO K j b d bT Df oE bQ b';have Q:∀e,e<aH.size->L.getD e v=m:=by
   intro e u;have av:L[e]'x∈L.toList:=E;cases I:L[e]'x with
   |true=>simp[hp,iF (by omega:e<L.size),I]
   |false=>
    have:L[e]'x∈L.toList.filter (λs=>!s):=kJ.2 ⟨av,by grind⟩;grind
  intro l;rw[DA];exact Oz
 |succ M aV=>
  intro L aU aO K j b d bT Df oE bQ b';intro l;rw[vB];cases a':(aR .any aH L)[l % c (aR .any aH L)]? with
  |none=>
   have aT:aR .any aH L=[]:=by
    cases aT:aR .any aH L with
    |nil=>rfl
    |cons bb ba=>
     grind[Nat.mod_lt]
   have Q:∀e,e<aH.size->L.getD e v=m:=by
    intro e;induction e using Nat.strongRecOn with
    |_ e a7=>
     intro u;cases I:L.getD e v with
     |true=>rfl
     |false=>
      have av:e∈aR .any aH L:=pA.2 ⟨aH[e],iF u,by
       grind,λn X ae=>by
       have:=t.cO e _ (iF u) n X ae
       grind⟩
      grind
   exact Oz
  |some e=>
   have u:=ca a';obtain⟨B,w,a4,aQ⟩:=pA.1 u;have aE:e<aH.size:=(je.1 w).1;have H:¬L.getD e v=m:=N;have T:=t.fy (λV=>L.getD V v=m) K;have aC:∀i,z i e->¬L.getD i v=m:=λi an aK=>H ((T i e an).1 aK);have a6:∀i,z e i->L.getD i v=m:=λi an=>by grind
   have O:(L.setIfInBounds e m).size=aH.size:=N;have a8:c ((L.setIfInBounds e m).toList.filter (λs=>!s))<=M:=by have h:L.toList[e]?=f v:=Rr;grind[xW]
   have a_:∀V aA,aH[V]?=f aA->(L.setIfInBounds e m).getD V v=m->∀n∈aA.after,eQ n=m->(L.setIfInBounds e m).getD n.on v=m:=wO
   have aj:bZ D (bq j) b (S e) d:=oE.fo λl a9 b Z Y=>t.eR e B w l a9 b Z (by
    unfold gz at Y;cases bc:idx l with
    |none=>grind
    |some V=>
     simp only[bc]at Y⊢;split
     .grind
     .split
      .grind
      .trivial)
   have aP:∀C o Z,dd (bq j) b C o->bx C o Z (k e)->mh D C o (gz F k idx (L.setIfInBounds e m)) (d.put B.dst Z):=by
    intro C o Z W Y;cases aN:B.dst with
    |none=>
     refine⟨oE.size,oE.defers.imp λ_ h=>h.mono W.ext,λl=>?_⟩;have J:=(oE.aK l).mono W.ext bQ.len;simp only[Act.put];unfold gz at J⊢;cases bc:idx l with
     |none=>grind
     |some V=>
      exact O1
    |some aI=>
     obtain⟨ar,a3⟩:=t.eS e B aI w aN;refine⟨by simp[Act.put,oE.size],oE.defers.imp λ_ h=>h.mono W.ext,λl=>?_⟩;simp only[Act.put];by_cases n:aI=l
     .subst n;have ax:aI<d.tmps.size:=by rw[oE.size];omega
      simp only[hp,uK ax,ir];unfold gz;simp only[ar];rw[br ((mG x).2 (.inl a))];exact Y
     have J:=(oE.aK l).mono W.ext bQ.len;simp only[hp]at J⊢;rw[sM n];unfold gz at J⊢;cases bc:idx l with
     |none=>grind
     |some V=>
      exact O1
   have aX:∀y,y<=aH.size->aJ q D aH.toList B (S e) (bq j) (k e) (bq y)->(∀g,g<aH.size->r g=m->((L.setIfInBounds e m).getD g v=m↔g<y)) ->
     cc q ab (G (s.N d (.inRegion aH (e::Region.linearise.go .any aH M (l / c (aR .any aH L)) (L.setIfInBounds e m) [])::A)) ai) b:=by intro y au aw U;have:=aw b d aj bQ s A ai ab e (Region.linearise.go .any aH M (l / c (aR .any aH L)) (L.setIfInBounds e m) []) I N;simp only[xg]at this;exact this λZ o Y aq W=>aV _ O a8 a_ y o _ au U (aP _ _ _ W Y) aq (b'.trans W) _
   have same:r e=v->∀g,g<aH.size->r g=m->((L.setIfInBounds e m).getD g v=m↔g<j):=wO;cases az:qA e with
   |true=>
    obtain⟨aS,R⟩:=t.all e B w az;exact aX j bT (R j) (same aS)
   |false=>
    have aD:=t.R e B w az;have a1:bq e=bq j:=by
     rcases Nat.le_total j e with aG|aG
     .refine t.chain aG λi h ad=>?_;cases X:r i with
      |false=>rfl
      |true=>
       exfalso;rcases t.comp e i aE x X x az with⟨_,aa⟩|⟨aa,_⟩
       .grind
       omega
     refine(t.chain aG λi h ad=>?_).symm;cases X:r i with
     |false=>rfl
     |true=>
      exfalso;have a2:=(Df i x X).2 ad;by_cases ao:i=e
      .grind
      rcases t.comp e i aE x X (λn=>ao n.symm) az with⟨aa,_⟩|⟨_,aa⟩
      .omega
      grind
    rw[a1]at aD;cases aZ:r e with
    |false=>
     rw[t.aW e aZ,a1]at aD;exact aX j bT aD (same aZ)
    |true=>
     refine aX (e+1) x aD λg ag ah=>?_;rw[mG x];by_cases a0:g=e
     .grind
     simp only[a0,false_or];rcases t.comp e g aE ag ah (λn=>a0 n.symm) az with⟨h,aa⟩|⟨h,aa⟩
     .grind
     grind
end
def Av(P:aI):n TypeDesc->n Field->Nat->Prop
 |[],[],_=>True
 |e::a,b::d,g=>b.name≠ "_"/\b.offset=g/\P.underlying b.type=f e/\(match e with|.int _|.string|.bool=>True|_=>False)/\Av P a d (g+1)
 |_,_,_=>False
def va(g:Nat)(b d:Array Z)(a:Field)(_:Option Bool×Unit):Sem (ForInStep (Option Bool×Unit)):=
 if a.name= "_" then pure (ForInStep.yield (p,()))
 else do
  let e<-part a.type b a.offset;let i<-part a.type d a.offset;let h<-aQ g a.type e i
  if h=v then pure (ForInStep.done (f v,()))else pure (ForInStep.yield (p,()))
def Mf{P}(k)(u)(ah e):∀{h:n TypeDesc}{i:n Field}{g:Nat}{A x:n Z}{l:Bool},Av P h i g->ov h A x=f l->(∀q d,A[q]?=f d->ah[g+q]?=f d)->(∀q d,x[q]?=f d->e[g+q]?=f d) ->
  (Op.eqFields (u+1) ah e i).run P k=.ok l k/\∀b,(forIn i (p,()) (va (u+1) ah e)).events P k b=b
 |[],[],g,[],[],l,_,j,_,_=>by cases j;simp[Op.eqFields]
 |[],[],g,_::_,_,l,_,j,_,_=>by cases j
 |[],[],g,[],_::_,l,_,j,_,_=>by cases j
 |[],_::_,g,_,_,l,I,_,_,_=>I.elim
 |_::_,[],g,_,_,l,I,_,_,_=>I.elim
 |B::h,o::i,g,[],_,l,_,j,_,_=>by cases j
 |B::h,o::i,g,_::_,[],l,_,j,_,_=>by cases j
 |B::h,o::i,g,d::A,r::K,l,⟨Q,T,J,V,W⟩,j,O,M=>by
  simp[ov]at j;cases w:rL B d r with
  |none=>grind
  |some C=>
   cases U:ov h A K with
   |none=>grind
   |some X=>
    simp[w,U]at j;subst j;obtain⟨H,aa⟩:=Mf k u ah e W U (λq d G=>by have:=O (q+1) d N;grind) (λq d G=>by have:=M (q+1) d N;grind);have E:ah[g]?=f d:=by simpa using O 0 d a
    have D:e[g]?=f r:=by simpa using M 0 r a
    have R:(isAgg o.type).run P k=.ok v k:=by unfold isAgg underlying;cases B<;>simp at V<;>simp[J]
    have z:∀s t,s[g]?=f t->(part o.type s o.offset).run P k=.ok t k:=by intro s t F;unfold part;simp[R,T,F]
    have S:∀s t,s[g]?=f t->∀b,(part o.type s o.offset).events P k b=b:=by intro s t F b;unfold part;simp[R,T,F]
    have Y:∀b,(aQ (u+1) o.type d r).events P k b=b:=by
     intro b;unfold rL at w;split at w<;>first
      |(cases w;done)
      |(unfold aQ;simp[underlying,J];done)
      |(unfold aQ;simp[underlying,J];split<;>rfl)
    have y:(aQ (u+1) o.type d r).run P k=.ok C k:=by unfold rL at w;grind[run_equalIn_int,run_equalIn_string,run_equalIn_bool]
    refine⟨?_,λb=>?_⟩
    .rw[Op.eqFields.eq_2,br Q];simp[cI,z ah d E,z e r D,y,c7];cases C
     .simp
     grind
    rw[List.forIn_cons];simp[va,Q,dh,aF,cI,z ah d E,z e r D,y,c7,aK,S ah d E,S e r D,Y];cases C
    .simp
    simpa using aa b
def oz{h8}{bg}(h:P.underlying o=f (.struct h8.toArray))(j:P.stoodInHeld o=v)(s:P.eqGuardType P.depth o=v)(k:Av P bg h8 0):
  P.eqGuardType P.depth o=v/\∀d A b e,ov bg A b=f e->(Op.equal o (.agg A.toArray) (.agg b.toArray)).run P d=.ok e d/\∀a,(Op.equal o (.agg A.toArray) (.agg b.toArray)).events P d a=a:=by
 refine⟨s,λd A b e q=>?_⟩;have w:P.fieldsOf o=h8.toArray:=by unfold Program.fieldsOf;rw[h]
 have key:=Mf d 9998 A.toArray b.toArray k q (λr u l=>by grind) (λr u l=>by grind);refine⟨?_,λa=>?_⟩
 rotate_left
 .show (aQ (9999+1) o _ _).events P d a=a;have n:=key.2 a;unfold aQ;simp[underlying,h,j];show Result.evThen ((forIn h8 (p,()) (va 9999 A.toArray b.toArray)).run P d) ((forIn h8 (p,()) (va (9998+1) A.toArray b.toArray)).events P d a) _=a;rw[n];cases(forIn h8 (p,()) (va 9999 A.toArray b.toArray)).run P d with
  |ok i g=>obtain⟨t,_⟩:=i;cases t<;>rfl
  |halt x g=>rfl
 show(aQ (9999+1) o _ _).run P d=_;grind[run_equalIn_agg]
def qr:n TypeDesc->n Q->n Q->Option Bool
 |[],[],[]=>f m
 |.int _::b,.c (.int j e)::a,.c (.int i g)::d=>match ti j i with
  |true=>match qr b a d with
   |some h=>f ((e==g)&&h)
   |none=>p
  |false=>p
 |.string::b,.c (.T e)::a,.c (.T g)::d=>match qr b a d with
  |some h=>f ((e==g)&&h)
  |none=>p
 |.bool::b,.c (.bool e)::a,.c (.bool g)::d=>match qr b a d with
  |some h=>f ((e==g)&&h)
  |none=>p
 |_,_,_=>p
def Cr:∀{i:n TypeDesc}{g j:n Q}{z:Bool}{A a:n Z},qr i g j=f z->bO l b A g->bO l b a j->ov i A a=f z:=by
 intro i;induction i with
 |nil=>
  intro g j z A a k r q;cases g<;>cases j<;>simp only[qr,reduceCtorEq]at k
  cases A<;>cases a<;>first|exact r.elim|exact q.elim|exact cQ
 |cons J i s=>
  intro g j z A a k r q;unfold qr at k;split at k
  .grind
  .rename_i d u h t C I e dK heq;cases heq;split at k
   .rename_i bT;cases Do bT;split at k
    .rename_i D B;cases k;cases A with
     |nil=>exact r.elim
     |cons x A=>cases a with
      |nil=>exact q.elim
      |cons y a=>
       obtain⟨o,w⟩:=r;obtain⟨w1,w2⟩:=q;cases(show Rd b.E x (.int h t)from o);cases(show Rd b.E y (.int h e)from w1);simp[ov,rL,s B w w2]
    grind
   grind
  .rename_i u t C e dK heq;cases heq;split at k
   .rename_i D B;cases k;cases A with
    |nil=>exact r.elim
    |cons x A=>cases a with
     |nil=>exact q.elim
     |cons y a=>
      obtain⟨o,w⟩:=r;obtain⟨w1,w2⟩:=q;cases(show Rd b.E x (.T t)from o)with
      |T E _=>
      cases(show Rd b.E y (.T e)from w1)with
      |T F _=>
      simp[ov,rL,s B w w2];grind[ByteArray.toList_eq]
   grind
  .rename_i u t C e dK heq;cases heq;split at k
   .rename_i D B;cases k;cases A with
    |nil=>exact r.elim
    |cons x A=>cases a with
     |nil=>exact q.elim
     |cons y a=>
      obtain⟨o,w⟩:=r;obtain⟨w1,w2⟩:=q;cases(show Rd b.E x (.bool t)from o);cases(show Rd b.E y (.bool e)from w1);simp[ov,rL,s B w w2]
   grind
  grind
section
variable {ad:n (Nat×bv)}
def h_:BinOp->Bool->Option Bool
 |.eql,a=>f a
 |.neq,a=>f (!a)
 |_,_=>p
def GR{k X}{J}{i r}(I:match k,X with|.agg _,.agg _=>True|.bool _,.bool _=>True|_,_=>False)(w:(Op.equal o k X).run P J=.ok i J)(t:h_ op i=f r):
  (binOp op o k X).run P J=.ok (.bool r) J:=by
 cases op<;>simp[h_,reduceCtorEq,eW]at t
 .exact QA
 exact QA
def IN{k X}{J}{i r}(b:match k,X with|.agg _,.agg _=>True|.bool _,.bool _=>True|_,_=>False)(e:(Op.equal o k X).run P J=.ok i J)(a:∀V,(Op.equal o k X).events P J V=V)(d:h_ op i=f r)(V):
  (binOp op o k X).events P J V=V:=by cases op<;>simp[h_,reduceCtorEq,eW]at d<;>(cases k<;>cases X<;>simp only at b<;>simp[binOp,a])
def UU(op)(o)(k X)(ah a)(d)(b:P.eqGuardType P.depth o=v)(V):(eqGuard op o k X (.agg ah) (.agg a)).events P d V=V:=by cases op<;>simp[eqGuard,b]
theorem a0.j8(aV:bn P ad)(x:s.op=.binOp op o k X ty){e}(q:b1 ad o=f e)(F:e.eq≠[]){ai V}{i r}(J:η k=.p (.agg ai))(I:η X=.p (.agg V))(t:qr e.eq ai V=f i)(B:h_ op i=f r):a0 P s η l (aw (.bool r)) l:=by refine .aW λa K E g=>?_;have b:=g k;have d:=g X;rw[J]at b;rw[I]at d;obtain⟨A,z,n⟩:=b;obtain⟨h,y,j⟩:=d;obtain⟨u,heq⟩:=(aV o e q).iM F;have w:=GR (k:=.agg A.toArray) (X:=.agg h.toArray) C (heq a.a A h i (Cr t n j)).1 B;have D:=IN (k:=.agg A.toArray) (X:=.agg h.toArray) C (heq a.a A h i (Cr t n j)).1 (heq a.a A h i (Cr t n j)).2 B;refine⟨.bool r,?_,Rd.bool,by simp[ac,x,z,y,aF,run_eqGuard_agg a.a op o k X _ _ u,UU op o k X _ _ a.a u,aK,cI,c7,w,D,Sem.events_pure]⟩;simp[ac,x,z,y,cI,run_eqGuard_agg a.a op o k X _ _ u,c7,w,d_]
theorem a0.iy(aV:bn P ad)(x:s.op=.binOp op o k X ty){e}(q:b1 ad o=f e)(E:e.desc=.bool){g i r}(I:η k=aw (.bool g))(F:η X=aw (.bool i))(z:h_ op (g==i)=f r):a0 P s η l (aw (.bool r)) l:=by
 refine .aW λh n B j=>?_;have b:=j k;have d:=j X;rw[I]at b;rw[F]at d;replace b:=b8 b;replace d:=b8 d;generalize w:n k=K at b;generalize y:n X=M at d;cases b;cases d;have t:P.underlying o=f .bool:=by rw[(aV o e q).eN,E]
 have u:=GR (P:=P) (J:=h.a) (k:=.bool g) (X:=.bool i) C (run_equal_bool h.a o g i t) z;have D:∀a,(Op.equal o (.bool g) (.bool i)).events P h.a a=a:=λa=>by show(aQ (9999+1) o _ _).events P h.a a=a;unfold aQ;simp[underlying,t]
 have A:=IN (P:=P) (J:=h.a) (k:=.bool g) (X:=.bool i) C (run_equal_bool h.a o g i t) D z;refine⟨.bool r,?_,Rd.bool,by simp[ac,x,w,y,aF,eqGuard_at_bool,Sem.events_pure,d_,aK,cI,c7,u,A]⟩;simp[ac,x,w,y,cI,eqGuard_at_bool,d_,c7,u]
def a0.kj(r:s.op=.binOp .xor o k X ty){a i}(B:η k=aw (.int .i64 a))(A:η X=aw (.int .i64 i))(I:0<=a)(w:0<=i):
  a0 P s η l (aw (.int .i64 ((a.toNat ^^^ i.toNat:Nat):Int))) l:=by
 refine .aW λt j x h=>?_;have b:=h k;have d:=h X;rw[B]at b;rw[A]at d;replace b:=b8 b;replace d:=b8 d;generalize n:j k=C at b;generalize q:j X=D at d;cases b with|int e=>
 cases d with|int g=>
 have F:a.toNat ^^^ i.toNat<2 ^ 63:=by apply Nat.xor_lt_two_pow<;>simp[a7]at e g<;>omega
 have y:a7 .i64 ((a.toNat ^^^ i.toNat:Nat):Int):=cQ;refine⟨.int .i64 ((a.toNat ^^^ i.toNat:Nat):Int),?_,.int y,?_⟩
 rotate_left
 .simp only[ac,r,n,q,aF,qs,yc,aK,Go.binOp,d',hs,dh,Op.intBits,cI,c7,d_,Sem.events_pure]
 have u:((BitVec.ofInt 64 a) ^^^ (BitVec.ofInt 64 i)).toNat=a.toNat ^^^ i.toNat:=by rw[BitVec.toNat_xor,BitVec.toNat_ofInt,BitVec.toNat_ofInt];simp[a7]at e g;congr 1<;>omega
 have E:(BitVec.ofInt IntKind.i64.bits a ^^^ BitVec.ofInt IntKind.i64.bits i).toNat=a.toNat ^^^ i.toNat:=u;have z:(Go.binOp .xor o (.int .i64 a) (.int .i64 i)).run P t.a=.ok (.int .i64 ((a.toNat ^^^ i.toNat:Nat):Int)) t.a:=by simp only[Go.binOp,d',hs,dh,Op.intBits,d_];grind[sg]
 simp only[ac,r,n,q,cI,qs,c7,z,d_]
def a0.iD(aV:bn P ad){d dst}(S:s.op=.convert d dst k){e cd a4}(F:b1 ad d=f e)(Q:b1 ad dst=f cd)(Y:e.desc=.slice W)(ai:cd.desc=.string)(L:b1 ad W=f a4)(ak:a4.desc=.int .u8){eU}{t}(Z:∀g R,bx l g R (η k)->Rd g.E R (.C eU 1 j V))(E:uX V 0 j=f t):a0 P s η l (aw (.T t)) l:=by
 refine .dw λg an q K=>?_;have h:=Z g _ (K k);obtain⟨A,H,i⟩:=oV (P:=P) q h;obtain⟨z,n,au,r,ao,ar,_⟩:=h.b3;have G:j<=9223372036854775807:=x;have aj:c A=j:=by rw[H.len];omega
 obtain⟨u,C,ab⟩:=G8 (bD:=g.E) (A:=A) E aj (λag I aa av=>by
  obtain⟨R,aP,ah⟩:=H.rd ag I 0 aa N
  grind)
 have y:=(aV d e F).run_underlying (J:=g.a);have D:=(aV dst cd Q).run_underlying (J:=g.a);have M:=(aV W a4 L).run_underlying (J:=g.a);rw[Y]at y;rw[ai]at D;rw[ak]at M;have X:c t<=9223372036854775807:=N;have ae:∃w:ByteArray,(Conv.bytesToString (.slice z j n)).run P g.a=.ok (.string w) g.a/\w.data.toList=t:=by
  cases z with
  |none=>
   have aq:t=[]:=by
    have:A=[]:=by rw[r]at i;have b:=i.1;simp[Builtin.firstCells]at b;grind
    grind
   exact⟨ByteArray.empty,by simp[Conv.bytesToString],by exact bw⟩
  |some B=>
   rw[r]at i;have b:=i.1;simp[Builtin.firstCells,Nat.mul_one]at b;refine⟨⟨#[]++(u.map λk=>UInt8.ofNat k.toNat).toArray⟩,?_,by grind⟩;simp only[Conv.bytesToString,cI,b,c7,C];rw[List.forIn_toArray,Mg (P:=P) g.a (λ_ _=>rfl) u ByteArray.empty];rfl
 obtain⟨w,U,O⟩:=ae;refine⟨.string w,?_,Rd.T O X,?_⟩
 rotate_left
 .intro ax o;simp only[ac,S,r,aF,convert,y,D,aK,c7,M,U,cI,events_underlying,Sem.events_pure]at o;cases z with
  |none=>simp[Conv.bytesToString]at o
  |some B=>
   have T:=s7 (P:=P) q (h.cE (λ_ _=>rfl)) (J:=g.a) a;rw[r]at i T;have b:=i.1;simp only[Builtin.firstCells,Nat.mul_one]at b T;unfold Conv.bytesToString at o;simp only at o;rw[aF,b,aK,dC.bind (P:=P) ?_ λ_=>.pure]at o
   .grind [tF]
   rw[List.forIn_toArray];refine dC.hd (λk g=>?_) _ _;split
   .exact .pure
   exact .bind .stuck λ_=>.pure
 simp only[ac,S,r,cI,convert,y,D,c7,M,U,d_]
end
def rI(a:aA->y):n aA->Option (n O)
 |[]=>f []
 |g::e=>match a g with
  |.p (.R (.c b))=>match rI a e with
   |some d=>f (b::d)
   |none=>p
  |_=>p
def B4{l}{b}{e:aA->Z}{i:aA->y}(o:∀s,bx l b (e s) (i s)):∀{d:n aA}{a:n O},rI i d=f a->c d=c a/\∀(h:Nat)j,a[h]?=f j->∃q,(d.map e)[h]?=f q/\Rd b.E q j
 |[],a,g=>by cases g;grind
 |r::B,a,g=>by
  simp[rI]at g;split at g
  .rename_i j u;split at g
   .rename_i A t;cases g;obtain⟨x,w⟩:=B4 o t;refine⟨by grind,λh z k=>?_⟩;cases h with
    |zero=>
     simp at k;subst k;have:=o r;rw[u]at this;exact⟨e r,by simp,b8 this⟩
    |succ h=>grind
   grind
  grind
section
variable {ad:n (Nat×bv)}
theorem a0.makeFunc{fn}{b i}(k:s.op=.makeFunc fn b i){j h}(q:rI η b.toList=f j)(e:rI η i.toList=f h):a0 P s η l (aw (.fn fn j h)) l:=by
 refine .aW λy a r d=>?_;obtain⟨n,o⟩:=B4 d q;obtain⟨w,x⟩:=B4 d e;have t:b.map a=(b.toList.map a).toArray:=N;have u:i.map a=(i.toList.map a).toArray:=N;refine⟨.func fn (b.toList.map a).toArray (i.toList.map a).toArray,?_,?_,by simp only[ac,k,Instr.makeFunc];rfl⟩
 .simp only[ac,k,Instr.makeFunc,t,u];rfl
 refine Rd.fn _ _ N N (λg=>((b.toList.map a)[g]?).getD K) (λg=>((i.toList.map a)[g]?).getD K) N N N ?_;grind
def vv:TypeDesc->Bool
 |.interface _=>m
 |_=>v
def yS(b:aq):y->Option O
 |.p (.R (.c d))=>f (.cl b d)
 |.p (.agg a)=>match h4 a with
  |some e=>f (.cG b e)
  |none=>p
 |_=>p
def abi{g}{r}(a:yS o g=f r)(d:bx l b aa g):Rd b.E (.iface o aa) r:=by
 unfold yS at a;split at a
 .cases a;exact Rd.cl (b8 d) (b8 d).cell
 .split at a
  .rename_i q h;cases a;obtain⟨A,rfl,j⟩:=d;have e:=rJ h j;refine Rd.cG (by have:=e.cM;grind) (λu=>(A[u]?).getD K) (λu i=>by grind) λu r i=>?_;obtain⟨aa,n,k⟩:=e.get (u:=u) (w:=.c r) N;rw[n];exact k
  grind
 grind
theorem a0.makeInterface(aV:bn P ad){o}{k}(j:s.op=.makeInterface o k){e}(d:b1 ad o=f e)(a:vv e.desc=v){r}(n:yS o (η k)=f r):a0 P s η l (aw r) l:=by
 refine .aW λt h q g=>?_;have i:=(aV o e d).run_underlying (J:=t.a);refine⟨.iface o (h k),?_,abi n (g k),?_⟩
 rotate_left
 .simp only[ac,j,Instr.makeInterface,aF,cI,i,aK,c7,events_underlying];cases b:e.desc<;>rw[b]at a<;>first|(cases a;done)|simp
 simp[ac,j,Instr.makeInterface,cI,i,c7];cases b:e.desc<;>rw[b]at a<;>first|(cases a;done)|simp
def t'(a:bv):Option E1:=match a.agg with
 |true=>f (.agg (a.zero.map Q.c))
 |false=>p
def afF{e}(n:dR P o e){j}(g:t' e=f j):∃a,(zeroValue o).run P b.a=.ok a b.a/\ez l b a j:=by
 obtain⟨a,u,i⟩:=n.hX l b;refine⟨a,u,?_⟩;obtain⟨w,k,t,x,A,s,y,⟨h,d⟩,z⟩:=n.dc;have q:k=a:=by
  have:(zeroValue o).run P b.a=.ok k b.a:=by simp[zeroValue,typeInfo,t,s]
  grind
 subst q;unfold t' at g;cases r:e.agg with
 |true=>
  rw[r]at g d;simp[dH]at d;cases g;rw[d]at i⊢;exact⟨h.toList,by simp,by simpa[Value.cells]using i⟩
 |false=>grind
def sO(g:aq)(e:bv):O->Option (E1×Bool)
 |.cl a h=>match af a g with
  |true=>f (.R (.c h),m)
  |false=>match t' e with
   |some b=>f (b,v)
   |none=>p
 |.cG a d=>match af a g with
  |true=>f (.agg (d.map Q.c),m)
  |false=>match t' e with
   |some b=>f (b,v)
   |none=>p
 |.br=>match t' e with
  |some b=>f (b,v)
  |none=>p
 |_=>p
theorem a0.typeAssert(aV:bn P ad){k}{S o}(aa:s.op=.typeAssert k S o m){e}(O:b1 ad o=f e)(y:vv e.desc=v){r}(H:η k=aw r){x}{i}(h:sO o e r=f (x,i)):
  a0 P s η l (.ae [x,.R (.c (.bool i))]) l:=by
 refine .aW λb w ah V=>?_;have j:=V k;rw[H]at j;replace j:=b8 j;generalize ae:w k=z at j;have F:=(aV o e O).run_underlying (J:=b.a);have key:∀q i,(Instr.typeAssert z S o m).run P b.a=.ok (.tuple #[q,.bool i]) b.a->ez l b q x->(Instr.typeAssert z S o m).events P b.a #[]=#[]->∃q,(ac w s).run P b.a=.ok (.value q) b.a/\bx l b q (.ae [x,.R (.c (.bool i))])/\(ac w s).events P b.a #[]=#[]:=by intro q i j B n;refine⟨.tuple #[q,.bool i],?_,⟨[q,.bool i],a,B,Rd.bool,C⟩,by simp[ac,aa,ae,aF,j,n,aK,Sem.events_pure]⟩;simp[ac,aa,ae,cI,j,c7,d_]
 have fail:∀I,t' e=f I->(∀K,(zeroValue o).run P b.a=.ok K b.a->(Instr.typeAssert z S o m).run P b.a=.ok (.tuple #[K,.bool v]) b.a/\(Instr.typeAssert z S o m).events P b.a #[]=#[])->x=I->i=v->∃q,(ac w s).run P b.a=.ok (.value q) b.a/\bx l b q (.ae [x,.R (.c (.bool i))])/\(ac w s).events P b.a #[]=#[]:=by intro I D ak aj g;subst aj g;obtain⟨K,n,ao⟩:=afF (l:=l) (aV o e O) (b:=b) D;grind
 have E:∀ab,e.desc≠.interface ab:=by intro ab x;rw[x]at y;cases y
 cases j with
 |@cl u q r B ag=>
  simp[sO]at h;cases g:af u o with
  |true=>
   rw[g]at h;cases h;have U:=di g;subst U;refine key q m ?_ B ?_<;>
   .unfold Instr.typeAssert;simp only[cI,F,c7,aF,aK,events_underlying];cases t:e.desc<;>first|(exact absurd t (E _))|simp
  |false=>
   rw[g]at h;have X:u≠o:=λx=>by grind[Nat.beq_refl]
   simp only at h;split at h
   .rename_i I D;cases h;refine fail _ D (λK n=>⟨?_,?_⟩) a a<;>
    .unfold Instr.typeAssert;simp only[cI,F,c7,aF,aK,events_underlying];cases t:e.desc<;>first|(exact absurd t (E _))|simp[X,n]
   grind
 |@cG u A d R aq an G=>
  simp only[sO]at h;cases g:af u o with
  |true=>
   rw[g]at h;cases h;have U:=di g;subst U;refine key (.agg A.toArray) m ?_ ⟨A,a,?_⟩ ?_
   rotate_left 2
   .unfold Instr.typeAssert;simp only[F,aF,aK,events_underlying];cases t:e.desc<;>first|(exact absurd t (E _))|simp
   .unfold Instr.typeAssert;simp only[cI,F,c7];cases t:e.desc<;>first|(exact absurd t (E _))|simp
   have go:∀A d,c A=c d->(∀(T:Nat) r,d[T]?=f r->∃q,A[T]?=f q/\Rd b.E q r)->bO l b A (d.map Q.c):=by
    intro A;induction A with
    |nil=>intro d R _;cases d with|nil=>trivial|cons _ _=>grind
    |cons q A W=>
     intro d R M;cases d with
     |nil=>grind
     |cons r d=>
      obtain⟨ar,Z,Y⟩:=M 0 r rfl;simp at Z;subst Z;exact⟨Y,W d N (λT r ai=>by simpa using M (T+1) r N)⟩
   grind
  |false=>
   rw[g]at h;have X:u≠o:=λx=>by grind[Nat.beq_refl]
   simp only at h;split at h
   .rename_i I D;cases h;refine fail _ D (λK n=>⟨?_,?_⟩) a a<;>
    .unfold Instr.typeAssert;simp only[cI,F,c7,aF,aK,events_underlying];cases t:e.desc<;>first|(exact absurd t (E _))|simp[X,n]
   grind
 |br=>
  simp only[sO]at h;split at h
  .rename_i I D;cases h;refine fail _ D (λK n=>⟨?_,?_⟩) a a<;>
   .unfold Instr.typeAssert;simp only[cI,F,c7,aF,aK,events_underlying];cases t:e.desc<;>first|(exact absurd t (E _))|simp[n]
  grind
 |_=>simp[sO]at h
end
def uS(e:BinOp)(g:IntKind)(d:Int)(b:IntKind)(a:Int):Option (Int×n Prop):=
 match g with
 |.u64=>match e with
  |.shl=>f (((d.toNat*2 ^ a.toNat % 18446744073709551616:Nat):Int),[0<=a,a<=64])
  |.shr=>f (((d.toNat / 2 ^ a.toNat:Nat):Int),[0<=a,a<=64])
  |.and=>match b with|.u64=>f (((d.toNat &&& a.toNat:Nat):Int),[])|_=>p
  |.xor=>match b with|.u64=>f (((d.toNat ^^^ a.toNat:Nat):Int),[])|_=>p
  |_=>p
 |_=>p
section
variable {ad:n (Nat×bv)}
theorem GV{a}(b:a7 .u64 a):(BitVec.ofInt IntKind.u64.bits a).toNat=a.toNat:=by rw[BitVec.toNat_ofInt];simp[a7]at b;simp[IntKind.bits];omega
def acD{h d}{a i r}(o)(b:uS op h a d i=f (r,cg))(e:U cg)(g:a7 h a)(q:a7 d i)(j):
  a7 h r/\(Go.binOp op o (.int h a) (.int d i)).run P j=.ok (.int h r) j/\(Go.binOp op o (.int h a) (.int d i)).events P j #[]=#[]:=by
 unfold uS at b;split at b
 .split at b
  .cases b;obtain⟨n,l⟩:0<=i/\i<=64:=e;have w:a.toNat*2 ^ i.toNat % 18446744073709551616<18446744073709551616:=qc _ b9;simp[a7]at g;refine⟨by simp[a7];omega,?_⟩;have t:IntKind.wrap .u64 (a*2 ^ (min i.toNat IntKind.u64.bits))=((a.toNat*2 ^ i.toNat % 18446744073709551616:Nat):Int):=by have k:min i.toNat IntKind.u64.bits=i.toNat:=RR;have s:a=(a.toNat:Int):=x;rw[k,s];simp only[IntKind.wrap,IntKind.bits,IntKind.signed,c5];grind
   exact PP
  .cases b;obtain⟨n,l⟩:0<=i/\i<=64:=e;simp[a7]at g;have u:a.toNat / 2 ^ i.toNat<=a.toNat:=Nat.div_le_self _ _;refine⟨by simp[a7];grind,?_⟩;have t:a.fdiv (2 ^ (min i.toNat IntKind.u64.bits))=((a.toNat / 2 ^ i.toNat:Nat):Int):=by have k:min i.toNat IntKind.u64.bits=i.toNat:=RR;grind
   exact PP
  .split at b
   .cases b;have l:a.toNat &&& i.toNat<=a.toNat:=Nat.and_le_left;have I:a7 .u64 ((a.toNat &&& i.toNat:Nat):Int):=by simp[a7]at g⊢;omega
    refine⟨I,?_⟩;have aj:(BitVec.ofInt IntKind.u64.bits a &&& BitVec.ofInt IntKind.u64.bits i).toNat=a.toNat &&& i.toNat:=by grind[GV]
    exact OL
   grind
  .split at b
   .cases b;have I:a7 .u64 ((a.toNat ^^^ i.toNat:Nat):Int):=by simp[a7]at g q⊢;have:a.toNat ^^^ i.toNat<2 ^ 64:=Nat.xor_lt_two_pow x x;omega
    refine⟨I,?_⟩;have aj:(BitVec.ofInt IntKind.u64.bits a ^^^ BitVec.ofInt IntKind.u64.bits i).toNat=a.toNat ^^^ i.toNat:=by grind[GV]
    exact OL
   grind
  grind
 grind
theorem a0.bits{h e}{t i r}(y:s.op=.binOp op o k X ty)(E:η k=aw (.int h t))(C:η X=aw (.int e i))(B:uS op h t e i=f (r,cg))(q:U cg):
  a0 P s η l (aw (.int h r)) l:=by
 refine .aW λF g z d=>?_;have a:=d k;have b:=d X;rw[E]at a;rw[C]at b;replace a:=b8 a;replace b:=b8 b;generalize u:g k=I at a;generalize w:g X=J at b;cases a with|int j=>
 cases b with|int n=>
 obtain⟨D,x,A⟩:=acD (P:=P) o B q j n F.a;exact⟨.int h r,by simp[ac,y,cI,u,w,qs,c7,x,d_],.int D,by simp[ac,y,u,w,qs,yc,x,A]⟩
end
def lx(e:Nat)(a:n O)(b:Nat->n O):Nat->n O:=λd=>if d=e then a else b d
def nS(e b:Nat)(g:n O)(a:Nat->n O):Nat->n O:=λd=>if e<=d/\d<b then g else a d
section
variable {ad:n (Nat×bv)}{B:Nat}{h:Nat}
def G4(C:bd l b)(q:l[d]?=f (.q W h j V)){k r}(x:cx l b aa (.S d (.bz B k e r)))(E:B=j):
  ∃g i A a,b.t[d]?=f ⟨.slice (f ⟨g,0,p⟩) 0 i,[g]⟩/\aa=.pointer (f ⟨g,e*k+r,p⟩)/\b.a.heap[g]?=f (.cells (A++a).toArray W (0,0))/\c (A++a)=i*h/\j<=i/\i<=9223372036854775807/\e1 b.E h j V A/\∀w,b.E g w=p:=by
 obtain⟨I,⟨g,i,t,y⟩,_,Q⟩:=x;obtain⟨L,s,n⟩:=(Q _ _ _ _ q).2 E;rw[t]at n;rcases C.box d _ L q s with⟨_,rfl⟩|⟨O,g2,A,a,rfl,X,o,F,u,D,z⟩
 .cases n
 cases n;exact⟨g,i,A,a,s,y,X,o,F,u,D,z⟩
def Ec{B:Nat->Z}:∀{bg:n O}{z:Nat},(∀d e,bg[d]?=f e->Rd b.E (B (z+d)) e)->bO l b ((aB (c bg)).map λd=>B (z+d)) (bg.map Q.c)
 |[],z,_=>trivial
 |h::bg,z,g=>by rw[fp,w_];refine⟨g 0 h a,?_⟩;have:=Ec (bg:=bg) (z:=z+1) (λd e i=>by have:=g (d+1) e N;rwa [show z+1+d=z+(d+1) by omega]);grind[Function.comp_def]
theorem a0.jf(aV:bn P ad)(M:s.op=.indexAddr o k X){e a4}(i:b1 ad o=f e)(O:e.desc=.slice W)(y:b1 ad W=f a4){q}{u}{j}(H:η k=cz d (.C B a4.size q z))(E:η X=aw (.int j u))(ab:0<=u)(N:u<z):a0 P s η l (cz d (.bz B a4.size (q+u.toNat) 0)) l:=by
 refine .aW λD g R b=>?_;have C:=b k;rw[H]at C;have a:=b X;rw[E]at a;replace a:=b8 a;generalize Q:g X=Y at a;cases a;have A:=C;change cx l D (g k) (.S d _)at A;obtain⟨n,⟨ae,K,w,I,F,L,G,aa,Z,U⟩,T,S⟩:=A;obtain⟨t,rfl,rfl⟩:=U x;have r:=(aV o e i).run_underlying (J:=D.a);rw[O]at r;obtain⟨h,rfl⟩:∃h:Nat,u=h:=⟨u.toNat,by omega⟩
 have V:h<z:=x;refine⟨.pointer (f ⟨t,(q+h)*a4.size,p⟩),?_,⟨n,⟨t,I,Z,by simp⟩,T,S⟩,?_⟩<;>
 simp[ac,M,F,Q,Instr.indexAt,asIntOf,r,(aV W a4 y).bk,gQ,V,jH]
def a0.iS(aV:bn P ad){q}(r:s.op=.fieldAddr o k q){z h}{u}(F:η k=cz d (.bz B z e h))(t:lk ad o q=f (off,u)):a0 P s η l (cz d (.bz B z e (h+off))) l:=by refine .aW λD i A b=>?_;have a:=b k;rw[F]at a;have j:=a;change cx l D (i k) (.S d _)at j;obtain⟨g,⟨n,E,C,w⟩,y,x⟩:=j;exact⟨.pointer (f ⟨n,e*z+h+off,p⟩),by simp[ac,r,w,zf aV t],⟨g,⟨n,E,C,by grind⟩,y,x⟩,by simp[ac,r,w,yd aV t]⟩
theorem a0.jC(n:s.op=.nilCheck k){j o}(u:η k=cz d (.bz B j e o)):a0 P s η l (cz d (.bz B j e o)) l:=by refine .aW λw b r g=>?_;have a:=g k;rw[u]at a;have q:=a;have h:=a;change cx l w (b k) (.S d _)at h;obtain⟨t,⟨x,C,A,i⟩,z,y⟩:=h;exact⟨b k,by simp[ac,n,i],q,by simp[ac,n,i]⟩
theorem a0.jl(aV:bn P ad)(u:s.op=.call {callee:=.builtin .len,args:=#[k],argTypes:=dn})(Q:dn[0]?=f o){e}(b:b1 ad o=f e)(t:e.desc=.slice W){D A}(O:η k=cz d (.C B D A z)):a0 P s η l (aw (.int .i64 z)) l:=by
 refine .aW λq h w g=>?_;have a:=g k;rw[O]at a;have i:=a;change cx l q (h k) (.S d _)at i;obtain⟨x,⟨F,r,j,y,C,S,N,E,R,M⟩,K,I⟩:=i;have n:=(aV o e b).run_underlying (J:=q.a);rw[t]at n;refine⟨.int .i64 z,?_,Rd.int cQ,?_⟩<;>
 simp[ac,u,resolve,invoke,builtin,Builtin.len_,C,n,goInt,Q]
theorem a0.sliceB(aV:bn P ad){eZ bp}(K:s.op=.slice o k eZ bp p){e a4}(X:b1 ad o=f e)(O:e.desc=.slice W)(y:b1 ad W=f a4){N}{j u}(H:η k=cz d (.C B a4.size N z))(r:kM η eZ=f j)(Q:kM η bp=f u)(t:U (ji z j u)):a0 P s η l (cz d (.C B a4.size (N+bU 0 j) (bU z u-bU 0 j))) l:=by
 refine .aW λg D S b=>?_;have n:=b k;rw[H]at n;have I:=n;change cx l g (D k) (.S d _)at I;obtain⟨C,⟨F,w,h,R,E,M,ab,aa,Z,Y⟩,V,T⟩:=I;obtain⟨q,ae,G⟩:=v6 (P:=P) (kp:=m) M (kh b r) (kh b Q) t g.a;have A:=(aV o e X).run_underlying (J:=g.a);rw[O]at A;refine⟨.slice (if h=bU 0 j then F else F.map (·.add (bU 0 j*a4.size))) (bU z u-bU 0 j) (h-bU 0 j),?_,⟨C,⟨_,w,_,R,a,by omega,by omega,aa,Z,λag=>?_⟩,V,T⟩,by simp[ac,K,E,Instr.sliceAt,A,Instr.slice,q,vc (P:=P) (kp:=m) M (kh b r) (kh b Q) t g.a]⟩
 .simp[ac,K,E,Instr.sliceAt,A,Instr.slice,q,(aV W a4 y).bk]
 obtain⟨i,rfl,rfl⟩:=Y x;exact P8
def a0.e9(aV:bn P ad)(t:s.op=.load o k){n}{F}{aj}(ae:η k=cz d (.bz B h e n))(D:B=j)(J:l[d]?=f (.q W h j V))(C:b1 ad o=f F)(S:hf F ((fU n (V e)).map Q.c)=f aj)(Y:e<j):a0 P s η l (.p aj) l:=by
 refine .dw λb R I M=>?_;have x:=M k;rw[ae]at x;obtain⟨i,au,A,aq,ab,G,ag,H,an,L,y,ao⟩:=G4 I J x D;have aP:=y.bJ e Y;let B:Nat->Z:=λa=>A.getD (e*h+a) K;have D:∀a r,(fU n (V e))[a]?=f r->A[e*h+(n+a)]?=f (B (n+a))/\Rd b.E (B (n+a)) r:=by intro a r g;rw[rK,qb]at g;obtain⟨u,ak,ar⟩:=y.rd e Y (n+a) r g;grind
 have O:=Ec (l:=l) (b:=b) (B:=B) (bg:=fU n (V e)) (z:=n) (λa r g=>(D a r g).2);have T:∀a u,((aB (c (fU n (V e)))).map λa=>B (n+a))[a]?=f u->b.a.cell? ⟨i,e*h+n+a,p⟩=f u:=by
  intro a u g;simp[ng]at g;by_cases U:a<c (fU n (V e))
  .simp[U]at g;subst g;have ah:=(D a _ (bG U)).1;simp[aM,ag];grind
  grind
 obtain⟨u,X,aa⟩:=tJ (b:=b) (l:=l) (P:=P) (aV o F C) (i:=i) (off:=e*h+n) (aj:=aj) T O S;refine⟨u,by simp[ac,t,G,Instr.loadAt,Instr.sureAddr,X],aa,λw q=>?_⟩;have ai:w∈(loadVar o ⟨i,e*h+n,p⟩).events P b.a #[]:=by have aj:ac R s=(do pure (.value (<-loadVar o ⟨i,e*h+n,p⟩))):=RJ;rw[aj]at q;simpa[X]using q
 obtain⟨a,g,rfl⟩:=pp (aV o F C) (j:=c (fU n (V e))) (λa g=>⟨_,T a (B (n+a)) N⟩) (by have:=sf S;grind) w ai;exact qt (ca ab) E
def e1.put{jA}{b}{gE ci}(n:e1 bD h j V A)(q:e<j)(J:iV b gE (V e)=f ci)(B:c jA=c gE)(E:∀(g:Nat)l,gE[g]?=f l->∃aa,jA[g]?=f aa/\Rd bD aa l):
  e*h+b+c jA<=c A/\e1 bD h j (lx e ci V) (A.take (e*h+b)++jA++A.drop (e*h+b+c jA)):=by
 obtain⟨y,t⟩:=EA J;have Q:=n.bJ e q;have z:e*h+h<=j*h:=by have:=gX h (show e+1<=j by omega);grind
 have M:=n.len;have D:e*h+b+c jA<=c A:=x;have I:∀i,(A.take (e*h+b)++jA++A.drop (e*h+b+c jA))[i]?=if i<e*h+b then A[i]? else if i<e*h+b+c jA then jA[i-(e*h+b)]? else A[i]?:=by
  intro i;have k:c (A.take (e*h+b))=e*h+b:=N;by_cases o:i<e*h+b
  .grind
  rw[bl o];by_cases s:i<e*h+b+c jA
  .grind
  rw[bl s,hr N,qb];grind
 refine⟨D,⟨by grind,λd r=>?_,λd r g l a=>?_⟩⟩
 .simp only[lx];split
  .grind
  exact n.bJ d r
 simp[lx]at a;rw[I];split at a
 .rename_i w;subst w;rw[t]at a;by_cases o:g<b
  .rw[mt,kH N,iq,br o]at a;rw[br x];exact n.rd d q g l a
  by_cases s:g<b+c gE
  .rw[mt,hr N,kH N]at a;obtain⟨aa,u,F⟩:=E _ l a;refine⟨aa,?_,F⟩;rw[bl x,br x,<-u];congr 1;grind
  rw[hr N,qb]at a;rw[bl x,bl x];refine n.rd d q g l ?_;grind
 rename_i w;have O:g<h:=by have:=(cO.1 a).1;have:=n.bJ d r;omega
 rcases d6 d e with C|K
 .have:(d+1)*h<=e*h:=gX h C;rw[jH,Nat.one_mul]at this;rw[br x];exact n.rd d r g l a
 have:(e+1)*h<=d*h:=gX h x;rw[jH,Nat.one_mul]at this;rw[bl x,bl x];exact n.rd d r g l a
def bd.gC(r:bd l b)(t:l[d]?=f (.q W h j V)){q o}{e}(M:b.t[d]?=f ⟨.slice (f ⟨i,0,p⟩) 0 e,[i]⟩)(X:c (A++q)=e*h)(F:j<=e)(I:e<=9223372036854775807){g:Nat->n O}(w:b.a.heap[i]?=f (.cells (A++q).toArray W (0,0)))(Q:e1 b.E h j g o)(U:c o=c A)(J:∀D,b.E i D=p):
  bd (l.set d (.q W h j g)) {b with a:=b.a.setRow i (o++q).toArray}/\cN l b (l.set d (.q W h j g)) {b with a:=b.a.setRow i (o++q).toArray}:=by
 have C:(b.a.setRow i (o++q).toArray).heap[i]?=f (.cells (o++q).toArray W (0,0)):=setRow_heap b.a i _ _ W _ w;have B:∀k,k≠i->(b.a.setRow i (o++q).toArray).heap[k]?=b.a.heap[k]?:=λk s=>setRow_other b.a i k _ s;have S:b.t.set d ⟨.slice (f ⟨i,0,p⟩) 0 e,[i]⟩=b.t:=m4;obtain⟨G,R⟩:=r.cc (ce:=b.E) (bj:=b.a.setRow i (o++q).toArray) (ec:=.q W h j g) (cp:=⟨.slice (f ⟨i,0,p⟩) 0 e,[i]⟩) t M ⟨λ_=>rfl,bE _⟩ E
  (λk s z=>B k N) (λ_ _ _ _=>rfl) (λ_ _ _ x=>x) (λk u K y=>by
   have T:k≠i:=N;have:=r.mem k u K y;rw[<-this];simp[aM]
   grind) (λk s=>⟨.inl s,by grind⟩) a a a
  (.inr ⟨i,e,o,q,rfl,C,by grind,F,I,Q,J⟩)
 grind
def MF{e:Type}:∀{new d:n e},c new=c d->iV 0 new d=f new
 |[],[],_=>rfl
 |[],_::_,g=>by grind
 |_::_,[],g=>by grind
 |i::b,h::a,g=>by simp[iV,MF (new:=b) (d:=a) N]
def a0.h3(aV:bn P ad)(T:s.op=.store o k X){i}{y}{new}{gE ci}(ak:η k=cz d (.bz B h e i))(ah:B=j)(w:l[d]?=f (.q W h j V))(u:b1 ad o=f y)(aj:mx (η X)=f new)(J:c new=y.size)(G:h4 new=f gE)(F:c (V e)=h->iV i gE (V e)=f ci)(Z:e<j):
  a0 P s η l .any (l.set d (.q W h j (lx e ci V))):=by
 intro D b t x;have r:=x k;rw[ak]at r;obtain⟨z,an,A,n,R,aP,I,H,ab,ae,S,Q⟩:=G4 t w r ah;have C:=u3 aj (x X);have O:=rJ G C;have L:=bO.e0 O;have ar:(b X).cells.toList.length=c gE:=by have:=O.cM;grind
 replace F:=F (S.bJ e Z);obtain⟨aw,K⟩:=S.put Z F ar L;have Y:(b X).cells.size=y.size:=by rw[<-J,<-C.cM,nd]
 obtain⟨ai,ag⟩:=t.gC w R H ab ae I K N Q;have U:=run_storeCells_at P z (e*h+i) W (b X).cells.toList 0 (A++n).toArray D.a I N C.cell;have aa:((A++n).toArray.toList.take (e*h+i+0)++(b X).cells.toList++(A++n).toArray.toList.drop (e*h+i+0+(b X).cells.toList.length))=A.take (e*h+i)++(b X).cells.toList++A.drop (e*h+i+(b X).cells.toList.length)++n:=N;rw[aa]at U;refine⟨.skip,_,?_,a,ai,ag,?_⟩
 .simp[ac,T,aP,Instr.storeAt,Instr.sureAddr,storeVar,(aV o y u).bk,Y,U]
 intro q g;have ao:ac b s=(do storeVar o ⟨z,e*h+i,p⟩ (b X);pure .skip):=by simp[ac,T,aP,Instr.storeAt,Instr.sureAddr]
 rw[ao]at g;have aq:q∈(storeCells ⟨z,e*h+i,p⟩ (b X).cells.toList).events P D.a #[]:=by
  simp[storeVar,aF,(aV o y u).bk,Y,aK,events_sizeOf,d',hs,dh,cI,c7,Sem.events_pure]at g;generalize(storeCells ⟨z,e*h+i,p⟩ (b X).cells.toList).run P D.a=au at g;cases au with
  |ok az M=>simpa using g
  |halt k M=>simpa using g
 rcases nn (b X).cells.toList 0 (A++n).toArray D.a #[] I N C.cell q aq with av|⟨ax,_,_,rfl⟩
 .grind
 exact ow (ca R) E (Q _)
end
section
def bd.fz(j:bd l b)(q:∀a,b.E i a=p)(r:∀a e,A[a]?=f e->b.a.cell? ⟨i,a,p⟩=f e):
  bd (l.map λ_=>.M) {b with E:=λd a=>if d=i then A[a]? else b.E d a}/\∀d a e,b.E d a=f e->(if d=i then A[a]? else b.E d a)=f e:=by
 have g:=j.eb;refine⟨⟨λd a e h=>?_,g.len,λs o L aG n=>?_,g.a3,g.lt,g.own⟩,λd a e h=>?_⟩
 .by_cases k:d=i
  .grind
  simp[k,dh]at h;exact g.mem d a e h
 .have:=ca aG;simp at this;rw[<-this.2];trivial
 grind
def du.gH{e}{V}(r:du {b with E:=e} V){L}(x:L∈b.t)(s:i∈L.al)(w:∀h k g,b.E h k=f g->e h k=f g)(u:∀h k g,e h k=f g->h=i∨b.E h k=f g):du b V:=by
 intro n q;have d:=r n q;unfold h5 at d⊢;split at d
 .obtain⟨jD,jd,a⟩:=d;refine⟨jD,jd,?_⟩;rcases a with a|⟨a,j⟩|⟨a,g,j⟩
  .grind
  .refine .inr (.inl ⟨a,λo=>?_⟩);have:=j o;rename_i l _;cases t:b.E l.block l.off with
   |none=>rfl
   |some g=>grind
  grind
 all_goals exact d
end
def np(e:Nat)(a:Nat->Nat->Z):Nat->n O:=λb=>(aB e).map λd=>.val (a b d)
theorem s9{h}{a:Nat->Nat->Z}{r}(b:(np h a e)[u]?=f r):u<h/\r=.val (a e u):=by
 have d:u<h:=by have:=(cO.1 b).1;simpa[np]using this
 simp[np,d]at b;grind
def CR{h}{a:Nat->Nat->Z}(b:u<h):(np h a e)[u]?=f (.val (a e u)):=by simp[np,b]
def Rd.exact{bD}{aa}{o}{h j}{d:Nat->n O}(D:Rd bD aa (.C o h j d)):
  ∃k:Nat->Nat->Z,Rd bD aa (.C o h j (np h k))/\(∀a,a<j->c (d a)=h)/\∀a,a<j->∀b i,(d a)[b]?=f i->Rd bD (k a b) i:=by
 cases D with
 |C z q k y u x w t E l=>
  have A:∀a,a<j->∀b,b<h->∃i,(d a)[b]?=f i:=λa e b g=>⟨_,bG N⟩
  refine⟨k,.C z q k y u x (λa _=>by simp[np]) t (λa e b i g=>?_) (λa e b i g=>?_),w,l⟩
  .grind [s9]
  obtain⟨r,rfl⟩:=s9 g;obtain⟨B,s⟩:=A a e b r;exact .val (l a e b B s).cell
def Eb{h}{L}{e r}{cap}(aG:l[d]?=f (.q W h j V))(o:b.t[d]?=f L)(k:L.v=.slice r 0 cap)(q:j<=cap)(n:cap<=9223372036854775807)(x:0<cap->∃g,r=f ⟨g,0,p⟩/\e=f ⟨g,0,p⟩):cx l b (.slice e j cap) (.S d (.C j h 0 j)):=
 ⟨L.v,⟨e,r,cap,cap,rfl,q,by omega,n,k,λu=>by grind⟩,(cO.1 aG).1,λw s t i a=>by rw[aG]at a;cases a;exact⟨bE _,λ_=>⟨L,o,rfl⟩⟩⟩
def GI{a4}(t:j6 P s k X W a4){z}{bA}{o:Nat->n O}{ai:aA->Z}(u:bd l b)(br:cx l b (ai k) (.S d (.C j a4.size 0 j)))(M:l[d]?=f (.q W a4.size j V))(au:Rd b.E (ai X) (.C bA a4.size z o))(H:(j+z)*a4.bytes<=140737488355328):
  ∃a8 ah,(ac ai s).run P b.a=.ok a8 ah.a/\AE (l.set d (.q W a4.size (j+z) (cf j V o))) ah a8 (cz d (.C (j+z) a4.size 0 (j+z)))/\bd (l.set d (.q W a4.size (j+z) (cf j V o))) ah/\cN l b (l.set d (.q W a4.size (j+z) (cf j V o))) ah/\du b ((ac ai s).events P b.a #[]):=by
 obtain⟨bR,t2,g,cd,a3,e,J,aD,aE⟩:=t.op;have bY:=(cO.1 M).1;obtain⟨bQ,⟨w,bn,aG,C,a5,bb,bF,ba,a1,bH⟩,_,a7⟩:=br;obtain⟨L,I,an⟩:=(a7 _ _ _ _ M).2 rfl;rw[a1]at an;have aW:C=aG:=x;subst aW;have bB:0<C->∃i,bn=f ⟨i,0,p⟩/\w=f ⟨i,0,p⟩:=λt=>by grind
 have aP:=(cO.1 I).1;have bg:=ca I;have bD:=u.box d _ L M I;rw[lj a3,a5];have row:0<C->∃i A q,w=f ⟨i,0,p⟩/\L=⟨.slice (f ⟨i,0,p⟩) 0 C,[i]⟩/\b.a.heap[i]?=f (.cells (A++q).toArray W (0,0))/\c (A++q)=C*a4.size/\e1 b.E a4.size j V A/\∀s,b.E i s=p:=by
  intro y;obtain⟨i,T,aa⟩:=bB y;rcases bD with⟨_,rfl⟩|⟨h,B,A,q,rfl,ab,aK,aL,aN,aO,aQ⟩
  .grind
  grind
 by_cases bq:z=0
 .subst bq;have av:=ze (P:=P) (ty:=s.type) e J aD aE t.elem u (w:=w) bb au;simp only[kf];have bs:bt j V (cf j V o):=λg e=>by simp[cf,e]
  have aT:ey (l.set d (.q W a4.size j (cf j V o))) ⟨b.t.set d L,b.E,b.a,b.own⟩ (.q W a4.size j (cf j V o)) L:=by
   rcases bD with ab|⟨h,B,A,q,au,ab,aK,aL,aN,aO,aQ⟩
   .exact .inl ab
   exact .inr ⟨h,B,A,q,au,ab,aK,aL,aN,aO.cE bs,aQ⟩
  have ar:=u.cc (ce:=b.E) (bj:=b.a) (ec:=.q W a4.size j (cf j V o)) (cp:=L) M I ⟨λ_=>rfl,bE _⟩ (bE _) (λ_ _ _=>rfl) (λ_ _ _ _=>rfl) (λ_ _ _ t=>t) u.mem
   (λi H=>⟨.inl H,u.lt L bg i H⟩) a a a aT
  refine⟨.value (.slice w j C),_,?_,?_,ar.1,ar.2,jm (ya e J aD aE t.elem u bb au)⟩
  .simp[av]
  exact Eb (W:=W) Fk N an bb ba bB
 .by_cases aI:j+z<=C
  .obtain⟨i,A,q,rfl,rfl,hw,G,F,ad⟩:=row x;obtain⟨R,ak,av⟩:=Ei (P:=P) (ty:=s.type) e J aD aE t.elem u hw G au aI;have a6:=F.len;have bK:=ak.len;have bI:j*a4.size+z*a4.size<=C*a4.size:=by rw[<-jH];exact gX _ aI
   have ag:((A++q).take (j*a4.size)++R++(A++q).drop (j*a4.size+c R))=(A++R)++q.drop (c R):=by rw[<-a6];simp
   rw[ag]at av;have ax:=setRow_heap b.a i _ ((A++R)++q.drop (c R)).toArray W _ hw;have az:∀h,h≠i->(b.a.setRow i ((A++R)++q.drop (c R)).toArray).heap[h]?=b.a.heap[h]?:=λh a'=>setRow_other b.a i h _ a';obtain⟨aC,bf⟩:=u.cc (ce:=b.E) (bj:=b.a.setRow i ((A++R)++q.drop (c R)).toArray) (ec:=.q W a4.size (j+z) (cf j V o)) (cp:=⟨.slice (f ⟨i,0,p⟩) 0 C,[i]⟩) M I ⟨λ_=>rfl,by omega⟩ E
    (λh a' bP=>az h N) (λ_ _ _ _=>rfl) (λ_ _ _ t=>t) (λh bz S a2=>by
     have bJ:h≠i:=N;have:=u.mem h bz S a2;rw[<-this];simp[aM]
     grind) (λh a'=>⟨.inl a',by grind⟩) a a a
    (.inr ⟨i,C,A++R,q.drop (c R),rfl,ax,by grind,aI,ba,F.append ak,ad⟩)
   refine⟨.value (.slice (f ⟨i,0,p⟩) (j+z) C),_,?_,?_,aC,bf,jm (Cu e J aD aE t.elem u hw G au aI bg E (λs _=>ad s))⟩
   .simp[av]
   exact Eb (W:=W) Fk (by simp only;rw[io aP]) a aI ba λ_=>⟨i,a,a⟩
  .have aZ:C<j+z:=x;obtain⟨bp,aJ,bO,bM⟩:=au.exact;have aH:∃(ce:Mem) (b3:Nat->Nat->Z),bd (l.map λ_=>.M) {b with E:=ce}/\(∀h s S,b.E h s=f S->ce h s=f S)/\Rd ce (.slice w j C) (.C v a4.size j (np a4.size b3))/\(∀{V},du {b with E:=ce} V->du b V) /\
     (∀g,g<j->c (V g)=a4.size)/\∀g,g<j->∀r D,(V g)[r]?=f D->Rd b.E (b3 g r) D:=by
    by_cases y:0<C
    .obtain⟨i,A,q,rfl,rfl,hw,G,F,ad⟩:=row y;obtain⟨B,U⟩:=u.fz (i:=i) (A:=A) ad (λs S a3=>by
      simp only[aM,hw]
      grind)
     have bC:∀g,g<j->∀r D,(V g)[r]?=f D->A[g*a4.size+r]?=f (A.getD (g*a4.size+r) K)/\Rd b.E (A.getD (g*a4.size+r) K) D:=by intro g e r D Q;obtain⟨S,a9,a_⟩:=F.rd g e r D Q;grind
     have aV:∀g,g<j->∀r,r<a4.size->∃D,(V g)[r]?=f D:=λg e r Q=>⟨_,bG (by rw[F.bJ g e];exact Q)⟩
     refine⟨_,λg r=>A.getD (g*a4.size+r) K,B,U,.C i 0 (λg r=>A.getD (g*a4.size+r) K) bb ba E (λg _=>by simp[np]) bm (λg e r D Q=>?_) (λg e r D Q=>?_),λbu=>?_,F.bJ,λg e r D Q=>(bC g e r D Q).2⟩
     .obtain⟨T,_⟩:=s9 Q;grind
     .obtain⟨T,rfl⟩:=s9 Q;obtain⟨bo,aa⟩:=aV g e r T;exact .val (bC g e r bo aa).2.cell
     exact bu.gH (i:=i) bg E U λh s S a5=>by grind
    have T:C=0:=x;have aa:j=0:=x;subst T aa;have aF:=u.eb;exact⟨b.E,λ_ _=>K,⟨aF.mem,aF.len,aF.box,aF.a3,aF.lt,aF.own⟩,λ_ _ _ t=>t,Rd.dL,λt=>t,λg e=>by omega,λg e=>by omega⟩
   obtain⟨ce,b3,B,U,aU,aR,bN,bL⟩:=aH;have aj:=aJ.mono U;obtain⟨bh,q,bc,bk,ao,aq,aw,av⟩:=v5 (P:=P) (b:={b with E:=ce}) (ty:=s.type) e J aD aE t.elem B aU aj aZ H t.bytes;have aX:=vb (P:=P) (b:={b with E:=ce}) (ty:=s.type) e J aD aE t.elem B aU aj aZ H t.bytes;have aS:e1 b.E a4.size (j+z) (cf j V o) bh:=by
    refine⟨bk.len,λg e=>?_,λg e r D Q=>?_⟩
    .by_cases Y:g<j
     .simp only[cf,Y,dH];grind
     simp only[cf,Y,dh];grind
    by_cases Y:g<j
    .simp only[cf,Y,dH]at Q;have bl:r<a4.size:=N;obtain⟨S,a9,a_⟩:=bk.rd g e r (.val (b3 g r)) (by simp only[cf,Y,dH];exact CR bl);grind[Rd.bp]
    simp only[cf,Y,dh]at Q;have bl:r<a4.size:=N;obtain⟨S,a9,a_⟩:=bk.rd g e r (.val (bp (g-j) r)) (by simp only[cf,Y,dh];exact CR bl);grind[Rd.bp]
   have bx:∀s,b.E b.a.heap.size s=p:=λs=>by
    cases ae:b.E b.a.heap.size s with
    |none=>rfl
    |some S=>have:=u.block ae;omega
   obtain⟨aC,bf⟩:=u.cc (ce:=b.E) (bj:=b.a.drew.alloc (.cells (bh++q).toArray W)) (ec:=.q W a4.size (j+z) (cf j V o)) (cp:=⟨.slice (f ⟨b.a.heap.size,0,p⟩) 0 bc,[b.a.heap.size]⟩) M I
    ⟨λY=>absurd Y x,by omega⟩ E (λi H _=>iR b.a.drew _ H) (λ_ _ _ _=>rfl) (λ_ _ _ t=>t) (λi s S ae=>by have a0:=u.block ae;rw[<-u.mem i s S ae];simp only[aM];rw[iR b.a.drew _ a0];rfl) (λi H=>by simp at H;exact bw) a a a (.inr ⟨b.a.heap.size,bc,bh,q,rfl,lZ b.a.drew _,aw,ao,aq,aS,bx⟩)
   refine⟨.value (.slice (f ⟨b.a.heap.size,0,p⟩) (j+z) bc),_,?_,?_,aC,bf,jm (aR aX)⟩
   .simp only at av;simp[av]
   exact Eb (W:=W) Fk (by simp only;rw[io aP]) a ao aq λ_=>⟨_,a,a⟩
def a0.ia{a4}(w:j6 P s k X W a4){b}{q}{a:Nat->n O}(u:η k=cz d (.C j a4.size 0 j))(o:l[d]?=f (.q W a4.size j V))(t:∀g r,bx l g r (η X)->Rd g.E r (.C q a4.size b a))(h:(j+b)*a4.bytes<=140737488355328):
  a0 P s η l (cz d (.C (j+b) a4.size 0 (j+b))) (l.set d (.q W a4.size (j+b) (cf j V a))):=
 λg x i e=>GI w i (by have:=e k;rw[u]at this;exact this) o (t g _ (e X)) h
section
variable {ad:n (Nat×bv)}
def a0.js(aV:bn P ad)(r:s.op=.call {callee:=.builtin .len,args:=#[k],argTypes:=dn})(q:dn[0]?=f o){e}(b:b1 ad o=f e)(i:e.desc=.slice W){h}{cap}(w:η k=aw (.val (.slice h j cap)))(u:j<=9223372036854775807):a0 P s η l (aw (.int .i64 j)) l:=by
 refine .aW λx y t d=>?_;have a:=d k;rw[w]at a;have n:=Rd.bp (b8 a);have g:=(aV o e b).run_underlying (J:=x.a);rw[i]at g;refine⟨.int .i64 j,?_,Rd.int cQ,?_⟩<;>
 simp[ac,r,resolve,invoke,builtin,Builtin.len_,n,g,goInt,q]
theorem a0.jg(aV:bn P ad)(z:s.op=.indexAddr o k X){e a4}(h:b1 ad o=f e)(C:e.desc=.slice W)(D:b1 ad W=f a4){cap}{u}{n}(I:η k=aw (.val (.slice (f ⟨i,off,p⟩) j cap)))(F:η X=aw (.int n u))(N:0<=u)(A:u<j):a0 P s η l (aw (.val (.pointer (f ⟨i,off+u.toNat*a4.size,p⟩)))) l:=by
 refine .aW λK q B d=>?_;have r:=d k;rw[I]at r;have E:=Rd.bp (b8 r);have b:=d X;rw[F]at b;replace b:=b8 b;generalize y:q X=M at b;cases b;have t:=(aV o e h).run_underlying (J:=K.a);rw[C]at t;obtain⟨g,rfl⟩:∃g:Nat,u=g:=⟨u.toNat,by omega⟩
 have w:g<j:=x;refine⟨.pointer (f ⟨i,off+g*a4.size,p⟩),?_,Rd.val a,?_⟩<;>
 simp[ac,z,E,y,Instr.indexAt,asIntOf,t,(aV W a4 D).bk,gQ,w]
def a0.iT(aV:bn P ad){j}(n:s.op=.fieldAddr o k j){h}{u}(q:η k=aw (.val (.pointer (f ⟨i,off,p⟩))))(g:lk ad o j=f (h,u)):a0 P s η l (aw (.val (.pointer (f ⟨i,off+h,p⟩)))) l:=by refine .aW λw t r d=>?_;have b:=d k;rw[q]at b;have e:=Rd.bp (b8 b);exact⟨.pointer (f ⟨i,off+h,p⟩),by simp[ac,n,e,zf aV g],Rd.val a,by simp[ac,n,e,yd aV g]⟩
def a0.jV(aV:bn P ad){I}(Z:s.op=.slice o k p (f X) (f I)){e a4}(O:b1 ad o=f e)(H:e.desc=.slice W)(ah:b1 ad W=f a4){eU}{h}{n q}{u z}(ai:∀aa ae,bx l aa ae (η k)->Rd aa.E ae (.C eU h j V))(L:η X=aw (.int n u))(ag:η I=aw (.int q z))(K:0<=u)(an:u<=z)(ao:z<=j):a0 P s η l (aw (.C v h u.toNat V)) l:=by
 refine .aW λa F aq i=>?_;have T:=ai a _ (i k);have r:=i X;rw[L]at r;replace r:=b8 r;generalize Q:F X=au at r;cases r;have D:=i I;rw[ag]at D;replace D:=b8 D;generalize ab:F I=av at D;cases D;obtain⟨U,b,A,y,G,az,aP,aA,ar⟩:=T.b3;rw[y]at T;have N:=(aV o e O).run_underlying (J:=a.a);rw[H]at N;have em:=rr x;have t:(aX m j b p (f (.int n u)) (f (.int q z))).run P a.a=.ok (0,u.toNat,z.toNat) a.a:=by simp[aX,run_sliceBound (P:=P) a.a q z b _ x x,run_sliceBound (P:=P) a.a n u z.toNat _ K x]
 have aj:(aX m j b p (f (.int n u)) (f (.int q z))).events P a.a #[]=#[]:=by simp[aX,run_sliceBound (P:=P) a.a q z b _ x x,run_sliceBound (P:=P) a.a n u z.toNat _ K x,li (P:=P) a.a q z b _ x x,li (P:=P) a.a n u z.toNat _ K x]
 refine⟨.slice U u.toNat z.toNat,?_,?_,by simp[ac,Z,y,Q,ab,Instr.sliceAt,N,Instr.slice,t,aj]⟩
 .simp[ac,Z,y,Q,ab,Instr.sliceAt,N,Instr.slice,t,(aV W a4 ah).bk];intro _;rcases U with _|⟨Y,d,sp⟩<;>simp[Addr.add]
 cases T with
 |C Y d ak _ _ _ S R B C=>
  exact Rd.C Y d ak x x E (λe w=>S e x) (λax=>R x) (λe w u M g=>B e x u M g) (λe w u M g=>C e x u M g)
end
def e1.hP{h a}{kP:Nat->n O}{jA}(o:e1 bD h j V A)(q:e1 bD h z kP jA)(u:a+z<=j):
  e1 bD h j (λb=>if a<=b/\b<a+z then kP (b-a)else V b) (A.take (a*h)++jA++A.drop (a*h+c jA)):=by
 have D:=o.len;have F:=q.len;have C:a*h+z*h<=j*h:=by rw[<-jH];exact gX h u
 have I:c (A.take (a*h))=a*h:=N;have s:∀i,(A.take (a*h)++jA++A.drop (a*h+c jA))[i]?=if i<a*h then A[i]? else if i<a*h+z*h then jA[i-a*h]? else A[i]?:=by
  intro i;by_cases e:i<a*h
  .grind
  rw[bl e];by_cases r:i<a*h+z*h
  .grind
  rw[bl r,hr N,qb];grind
 refine⟨by grind,λb g=>?_,λb g l t d=>?_⟩
 .by_cases k:a<=b/\b<a+z
  .rw[br k];exact q.bJ _ x
  rw[bl k];exact o.bJ b g
 rw[s];by_cases k:a<=b/\b<a+z
 .rw[br k]at d;have B:l<h:=by have:=(cO.1 d).1;rw[q.bJ _ x]at this;omega
  have w:=gX h k.1;have y:b*h+h<=a*h+z*h:=by rw[<-jH,<-pa];exact gX h k.2
  rw[bl x,br x];obtain⟨K,E,J⟩:=q.rd (b-a) x l t d;grind[Nat.sub_mul]
 rw[bl k]at d;have B:l<h:=by have:=(cO.1 d).1;rw[o.bJ b g]at this;omega
 have:b*h+l<a*h∨a*h+z*h<=b*h+l:=by
  by_cases e:b<a
  .left;have:b*h+h<=a*h:=by rw[<-pa];exact gX h e
   omega
  right;have:(a+z)*h<=b*h:=gX h x;grind
 rcases this with e|e
 .rw[br e];exact o.rd b g l _ d
 rw[bl x,bl x];exact o.rd b g l _ d
def DL{W h i}{r:Nat->n O}{e}(u:Rd b.E aa (.C m i 0 r))(k:ao[d]?=f (.q W h 0 V))(s:e[d]?=f ⟨.slice p 0 0,[]⟩):cx ao {b with t:=e} aa (.S d (.C 0 h 0 0)):=by obtain⟨o,j,A,t,_,_,q,_,_⟩:=u.b3;have:=q a;subst this;refine⟨.slice p 0 0,⟨o,p,0,0,t,by omega,a,by omega,a,λg=>absurd g x⟩,(cO.1 k).1,λl w y kP g=>?_⟩;rw[k]at g;cases g;exact⟨bE _,λ_=>⟨_,s,a⟩⟩
def du.jm{a}{V}(i:du {b with t:=a++[⟨aa,[]⟩]} V)(k:b.t=a):du b V:=by
 intro h g;have e:=i h g;have key:∀d,(∃L∈a++[(⟨aa,[]⟩:Loc)],d∈L.al)->∃L∈b.t,d∈L.al:=λd ⟨L,l,j⟩=>by grind
 unfold h5 at e⊢;grind
def a0.ic{a4}(C:j6 P s k X W a4){h}{r}{e:Nat->n O}(N:η k=aw (.C m h 0 V))(I:∀b y,bx l b y (η X)->Rd b.E y (.C r a4.size z e))(o:(0+z)*a4.bytes<=140737488355328):
  a0 P s η l (cz (c l) (.C (0+z) a4.size 0 (0+z))) (l++[.q W a4.size (0+z) (cf 0 V e)]):=by intro b t bQ i;have g:=i k;rw[N]at g;have j:=I b _ (i X);obtain⟨F,D⟩:=bQ.b2 (bY:=.q W a4.size 0 V) (L:=⟨.slice p 0 0,[]⟩) (.refl _ _) rfl bQ (.inl ⟨rfl,rfl⟩) E;have B:cx (l++[.q W a4.size 0 V]) {b with t:=b.t++[⟨.slice p 0 0,[]⟩]} (t k) (.S (c l) (.C 0 a4.size 0 0)):=DL (W:=W) (V:=V) (b8 g) E uh;obtain⟨K,q,J,u,x,w,M⟩:=GI (P:=P) (l:=l++[.q W a4.size 0 V]) (b:={b with t:=b.t++[⟨.slice p 0 0,[]⟩]}) (d:=c l) (V:=V) C F B E j o;have A:(l++[an.q W a4.size 0 V]).set (c l) (.q W a4.size (0+z) (cf 0 V e))=l++[.q W a4.size (0+z) (cf 0 V e)]:=E;rw[A]at u x w;exact⟨K,q,J,u,x,D.trans w,M.jm a⟩
def qP(d e g:Nat)(a:Nat->n O):Nat->n O:=λb=>if d<=b/\b<d+g then a (e+(b-d))else a b
def a0.ib{a4}(aD:j6 P s k X W a4)(bu:η k=cz d (.C j a4.size 0 e))(bw:η X=cz d (.C j a4.size u z))(t:l[d]?=f (.q W a4.size j V))(ab:e+z<=j)(aO:u+z<=j):
  a0 P s η l (cz d (.C j a4.size 0 (e+z))) (l.set d (.q W a4.size j (qP e u z V))):=by
 intro b a8 q aU;obtain⟨b1,t2,b2,bQ,bt,r,au,bb,aP⟩:=aD.op;have aq:=aU k;rw[bu]at aq;change cx l b (a8 k) (.S d _)at aq;have ar:=aU X;rw[bw]at ar;change cx l b (a8 X) (.S d _)at ar;obtain⟨bz,⟨w,bg,h,y,aV,bf,aJ,Y,ad,Z⟩,_,bD⟩:=aq;obtain⟨L,D,bd⟩:=(bD _ _ _ _ t).2 rfl;rw[ad]at bd;obtain⟨bO,⟨o,bH,aC,bI,aW,bX,bn,bo,av,bp⟩,_,aA⟩:=ar;obtain⟨bU,T,H⟩:=(aA _ _ _ _ t).2 rfl;rw[D]at T;cases T;rw[av,bd]at H;cases H;have aG:=ca D;have az:=r.run_underlying (J:=b.a);have ba:=bb.run_underlying (J:=b.a);rw[au]at az;rw[aP]at ba;rw[lj bt,aV,aW];by_cases aQ:j=0
 .have ao:e=0:=x;have bk:z=0:=x;subst aQ ao bk;have ax:l.set d (.q W a4.size 0 (qP 0 u 0 V))=l:=by
   have:qP 0 u 0 V=V:=by funext bc;exact cQ
   rw[this];exact m4
  have aX:Rd b.E (.slice o 0 aC) (.C v a4.size 0 λ_=>[]):=.C 0 0 (λ_ _=>K) x x E (λe r=>by omega) (λaD=>by omega) (λe r=>by omega) (λe r=>by omega);have bC:=ze (P:=P) (ty:=s.type) r au bb aP aD.elem q (w:=w) bf aX;rw[ax];refine⟨.value (.slice w 0 h),b,?_,?_,q,.refl _ _,jm (ya r au bb aP aD.elem q bf aX)⟩
  .simp[bC]
  exact⟨bz,⟨w,bg,h,y,a,bf,aJ,Y,ad,Z⟩,(cO.1 t).1,bD⟩
 rcases q.box d _ L t D with⟨an,_⟩|⟨i,ak,A,ai,rfl,B,aZ,a1,a2,ah,aH⟩
 .grind
 cases bd;have bV:0<h:=x;obtain⟨bY,ao,rfl⟩:=Z bV;cases ao;have aL:y=h:=x;subst aL;rw[show i=i from a];have bN:=ah.len;have bx:e+z<=y:=x;have bJ:e*a4.size+z*a4.size<=j*a4.size:=by rw[<-jH];exact gX _ ab
 have bK:u*a4.size+z*a4.size<=j*a4.size:=by rw[<-jH];exact gX _ aO
 obtain⟨ak,bj⟩:=q.fz (i:=i) (A:=A) aH (λbc aE G=>by
  simp[aM,B]
  grind)
 let n:=(A.drop (u*a4.size)).take (z*a4.size);have aS:c n=z*a4.size:=N;have aR:∀g,g<z*a4.size->n[g]?=A[u*a4.size+g]?:=λg I=>by grind
 have S:e1 b.E a4.size z (λbc=>V (u+bc)) n:=by
  refine⟨aS,λbc G=>ah.bJ _ x,λbc G g bh I=>?_⟩;have bM:g<a4.size:=by have:=(cO.1 I).1;rw[ah.bJ _ x]at this;omega
  obtain⟨aE,R,F⟩:=ah.rd (u+bc) x g bh I;refine⟨aE,?_,F⟩;exact Px
 have bP:=S.cell;have ag:Rd (λC bc=>if C=i then A[bc]? else b.E C bc) (.slice o z aC) (.C v a4.size z (np a4.size λbc g=>A.getD ((u+bc)*a4.size+g) K)):=by
  refine .C i (u*a4.size) (λbc g=>A.getD ((u+bc)*a4.size+g) K) bX x E (λbc _=>by simp[np]) (λI=>N) (λbc G g bh I=>?_) (λbc G g bh I=>?_)
  .obtain⟨a3,_⟩:=s9 I;exact Px
  obtain⟨a3,rfl⟩:=s9 I;obtain⟨aj,aI⟩:∃aj,(V (u+bc))[g]?=f aj:=⟨_,bG (by rw[ah.bJ _ x];exact a3)⟩
  obtain⟨aE,R,F⟩:=ah.rd (u+bc) x g aj aI;have an:A.getD ((u+bc)*a4.size+g) K=aE:=N;rw[an];exact .val F.cell
 obtain⟨Q,bF,M,bs⟩:=oV (P:=P) (b:={b with E:=λC bc=>if C=i then A[bc]? else b.E C bc}) ak ag;have aT:Q=n:=by
  apply qg;intro g;have bL:=bF.len;by_cases I:g<z*a4.size
  .have bT:0<a4.size:=N;have G:g / a4.size<z:=sy N;have ae:=uF g a4.size;obtain⟨aE,R,F⟩:=bF.rd _ G (g % a4.size) _ (CR (qc _ bT));rw[ae]at R;rw[R,aR g I,Rd.bp F];rw[jH,Nat.add_assoc,ae,al,bG x];rfl
  grind
 subst aT;have aN:=s7 (P:=P) (b:={b with E:=λC bc=>if C=i then A[bc]? else b.E C bc}) ak ag (J:=b.a) rfl;replace M:(Builtin.firstCells a4.size z (.slice o z aC)).run P b.a=.ok n.toArray b.a:=M;have br:e*a4.size+c n<=c (A++ai):=N;have O:=run_storeCells_at P i (e*a4.size) W n 0 (A++ai).toArray b.a B N bP;simp only[kf]at O;have aw:((A++ai).toArray.toList.take (e*a4.size)++n++(A++ai).toArray.toList.drop (e*a4.size+c n))=A.take (e*a4.size)++n++A.drop (e*a4.size+c n)++ai:=N;rw[aw]at O;have a5:=ah.hP S ab;have bq:(λbc=>if e<=bc/\bc<e+z then(λbc=>V (u+bc)) (bc-e)else V bc)=qP e u z V:=rfl;rw[bq]at a5;obtain⟨bB,a6⟩:=q.gC t D aZ a1 a2 B a5 N aH;have bR:(Builtin.lenOf (.slice o z aC)).run P b.a=.ok z b.a:=cQ;have bW:(Builtin.lenOf (.slice o z aC)).events P b.a #[]=#[]:=cQ;refine⟨.value (.slice (f ⟨i,0*a4.size,p⟩) (e+z) y),_,?_,?_,bB,a6,jm ?_⟩
 .have bC:(Builtin.append_ #[b1,t2] s.type #[.slice (f ⟨i,0*a4.size,p⟩) e y,.slice o z aC]).run P b.a=.ok (.slice (f ⟨i,0*a4.size,p⟩) (e+z) y) (b.a.setRow i (A.take (e*a4.size)++n++A.drop (e*a4.size+c n)++ai).toArray):=by unfold Builtin.append_;simp[j9,nc,oa,cI,az,ba,c7,aD.elem.bk,d_,ka,dh,bR,bx,dH,hH,M,gQ,Nat.zero_mul,cV,O]
  grind[Go.Sem.run_bind,Go.Result.andThen_ok,Go.Sem.run_pure]
 .exact⟨.slice (f ⟨i,0,p⟩) 0 y,⟨_,_,y,y,a,bx,by omega,Y,a,λ_=>⟨i,a,a⟩⟩,by grind,λbS bZ b0 kP aa=>by rw[io (cO.1 t).1]at aa;cases aa;exact⟨bE _,λ_=>⟨_,D,a⟩⟩⟩
 .intro an a9;unfold Builtin.append_ at a9;simp[j9,nc,oa,aF,cI,az,ba,aK,aD.elem.bk,d_,ka,dh,bR,bW,bx,dH,hH,M,gQ,Nat.zero_mul,cV,O,
   sK,Sem.events_ite,events_underlying,events_sizeOf,Sem.events_pure]at a9
  rcases nn n 0 (A++ai).toArray b.a _ B N bP an a9 with bl|⟨g,_,_,rfl⟩
  .have bm:du {b with E:=λC bc=>if C=i then A[bc]? else b.E C bc} #[an]:=du.R (tF (aN an bl));exact bm.gH (i:=i) aG E bj (λC bc aE aV=>by grind) an E
  grind[ow]
section
variable {ad:n (Nat×bv)}
theorem a0.slice3B(aV:bn P ad){J D}(N:s.op=.slice o k (f J) (f X) (f D)){E a4}(y:b1 ad o=f E)(H:E.desc=.slice W)(S:b1 ad W=f a4){B h ah}{aa b r}{e u z}(V:η k=cz d (.C B h ah j))(T:η J=aw (.int aa e))(U:η X=aw (.int b u))(R:η D=aw (.int r z))(au:0<=e)(Z:e<=u)(ab:u<=z)(av:z<=j):a0 P s η l (.p (.R .any)) l:=by
 refine .aW λg q ae n=>?_;have I:=n k;rw[V]at I;change cx l g (q k) (.S d _)at I;obtain⟨ag,⟨M,Y,i,ax,G,ar,an,aq,ao,L⟩,_,_⟩:=I;have C:=n J;rw[T]at C;replace C:=b8 C;generalize Q:q J=ai at C;cases C;have t:=n X;rw[U]at t;replace t:=b8 t;generalize O:q X=aj at t;cases t;have w:=n D;rw[R]at w;replace w:=b8 w;generalize K:q D=ak at w;cases w;have F:=(aV o E y).run_underlying (J:=g.a);rw[H]at F;have A:(aX m j i (f (.int aa e)) (f (.int b u)) (f (.int r z))).run P g.a=.ok (e.toNat,u.toNat,z.toNat) g.a:=by simp[aX,run_sliceBound (P:=P) g.a r z i _ x x,run_sliceBound (P:=P) g.a b u z.toNat _ x x,run_sliceBound (P:=P) g.a aa e u.toNat _ x x]
 have aP:(aX m j i (f (.int aa e)) (f (.int b u)) (f (.int r z))).events P g.a #[]=#[]:=by
  simp[aX,run_sliceBound (P:=P) g.a r z i _ x x,run_sliceBound (P:=P) g.a b u z.toNat _ x x,run_sliceBound (P:=P) g.a aa e u.toNat _ x x,
   li (P:=P) g.a r z i _ x x,li (P:=P) g.a b u z.toNat _ x x,li (P:=P) g.a aa e u.toNat _ x x]
 refine⟨.slice (if z.toNat=e.toNat then M else M.map (·.add (e.toNat*a4.size))) (u.toNat-e.toNat) (z.toNat-e.toNat),?_,a,by simp[ac,N,G,Q,O,K,Instr.sliceAt,F,Instr.slice,A,aP]⟩;simp[ac,N,G,Q,O,K,Instr.sliceAt,F,Instr.slice,A,(aV W a4 S).bk]
end
section drop
variable {aO bs:n an}
def a5.cut(a:a5)(b:Nat):a5:={a with t:=a.t.take b}
def cx.drop{g}(e:cx (aO++bs) b aa g)(h:l2 (c aO) g=m):cx aO (b.cut (c aO)) aa g:=by
 have lt:∀{d:Nat},ay (d+1) (c aO)=m->d<c aO:=λq=>fe q;cases g with
 |c w=>exact e
 |any=>exact e
 |ptr d t=>
  have gG:=lt h;obtain⟨a,L,n,j,ae⟩:=e;refine⟨λi k=>a i N,L,n,?_,ae⟩;simp[a5.cut,iq,gG,dH];exact j
 |aV d=>
  have gG:=lt h;obtain⟨a,L,j,ae⟩:=e;refine⟨λi k=>a i N,L,?_,ae⟩;simp[a5.cut,iq,gG,dH];exact j
 |S d u=>
  have gG:=lt h;obtain⟨l,a,_,ae⟩:=e;refine⟨l,a,gG,λW gb DK dK k=>?_⟩;exact PY
 |w d r s o=>
  have gG:=lt h;obtain⟨a,_,ae⟩:=e;refine⟨a,gG,λW gb DK dK k=>?_⟩;exact PY
def bO.cK:∀{A:n Z}{a:n Q},bO (aO++bs) b A a->lp (c aO) a=m->bO aO (b.cut (c aO)) A a
 |[],[],_,_=>trivial
 |[],_::_,d,_=>d.elim
 |_::_,[],d,_=>d.elim
 |i::A,h::a,d,e=>by
  simp[lp]at e;cases g:l2 (c aO) h with
  |false=>grind
  |true=>simp[g]at e;exact⟨d.1.drop g,bO.cK d.2 e⟩
def ez.cK{aa}{a}(h:ez (aO++bs) b aa a)(g:px (c aO) a=m):ez aO (b.cut (c aO)) aa a:=by
 cases a with
 |R j=>exact cx.drop h g
 |agg i=>obtain⟨A,d,e⟩:=h;exact⟨A,d,bO.cK e g⟩
def eV.cK:∀{A:n Z}{a:n E1},eV (aO++bs) b A a->oH (c aO) a=m->eV aO (b.cut (c aO)) A a
 |[],[],_,_=>trivial
 |[],_::_,d,_=>d.elim
 |_::_,[],d,_=>d.elim
 |i::A,h::a,d,e=>by
  simp[oH]at e;cases g:px (c aO) h with
  |false=>grind
  |true=>simp[g]at e;exact⟨ez.cK d.1 g,eV.cK d.2 e⟩
def bx.drop{a}(h:bx (aO++bs) b aa a)(g:hN (c aO) a=m):bx aO (b.cut (c aO)) aa a:=by
 cases a with
 |p j=>exact ez.cK h g
 |ae i=>obtain⟨A,d,e⟩:=h;exact⟨A,d,eV.cK e g⟩
 |any=>trivial
def dd.drop{d}{h}(a:dd d h (aO++bs) b)(s:d.length<=c aO):dd d h aO (b.cut (c aO)):=by refine⟨a.size,a.a6,a.mem,a.bG,λL k r n=>a.bW L (hh k) r n,?_,a.os,a.tape,a.output,a.own⟩;intro o q L aG k;obtain⟨i,j,e,l,t⟩:=a.box o q L aG k;have g:o<c aO:=eE (cO.1 aG).1 s;rw[kH g]at e;exact⟨i,j,e,by simp[a5.cut,iq,g,dH];exact l,t⟩
def cx.cI{g}(j:c b.t=c l)(e:cx l b aa g):l2 (c l) g=m:=by
 have ok:∀{a:Nat},a<c l->ay (a+1) (c l)=m:=λd=>AO d;have lt:∀{a:Nat} {L:Loc},b.t[a]?=f L->a<c l:=λd=>by grind
 cases g with
 |c t=>rfl
 |any=>rfl
 |ptr a r=>obtain⟨_,L,n,h,_⟩:=e;exact ok (lt h)
 |aV a=>obtain⟨_,L,h,_⟩:=e;exact ok (lt h)
 |S a s=>obtain⟨k,_,d,_⟩:=e;exact ok d
 |w a o q i=>exact ok e.2.1
def bO.cI{l}(e:c b.t=c l):∀{A:n Z}{a:n Q},bO l b A a->lp (c l) a=m
 |[],[],_=>rfl
 |[],_::_,d=>d.elim
 |_::_,[],d=>d.elim
 |h::A,g::a,d=>by simp[lp,d.1.cI e];exact bO.cI e d.2
def ez.cI{l}(a:c b.t=c l){aa}{d}(e:ez l b aa d):px (c l) d=m:=by
 cases d with
 |R i=>exact cx.cI a e
 |agg g=>obtain⟨A,_,h⟩:=e;exact bO.cI a h
def eV.cI{l}(e:c b.t=c l):∀{A:n Z}{a:n E1},eV l b A a->oH (c l) a=m
 |[],[],_=>rfl
 |[],_::_,d=>d.elim
 |_::_,[],d=>d.elim
 |h::A,g::a,d=>by simp[oH,ez.cI e d.1];exact eV.cI e d.2
def bx.cI{l}(a:c b.t=c l){aa}{d}(e:bx l b aa d):hN (c l) d=m:=by
 cases d with
 |p i=>exact ez.cI a e
 |ae h=>obtain⟨A,_,g⟩:=e;exact eV.cI a g
 |any=>rfl
def As(l:Nat)(d:n an)(k:Nat)(b:an):Prop:=(∃h a,b=.cells h a/\lp l a=m)∨d[k]?=f b∨(∃g e i j,b=.loop g e i/\d[k]?=f (.loop g e j))∨((∀h a,b≠.cells h a)/\∀g e i,b≠.loop g e i)
def bd.gZ{w}{g}(q:bd g w)(x:g.length=c aO)(O:∀d(r:an),aO[d]?=f r->As (c aO) g d r)(t:bd (aO++bs) b):bd aO (b.cut (c aO)):=by
 have E:c aO<=c b.t:=Fh;refine⟨t.mem,by simp[a5.cut,E],?_,?_,?_,λh a=>⟨(t.own h a).1,λL e=>(t.own h a).2 L (hh e)⟩⟩
 .intro d r L aG e;have K:d<c aO:=(cO.1 aG).1;simp[a5.cut,iq,K,dH]at e;have o:=t.box d r L N e;have y:∃z,w.t[d]?=f z:=⟨_,bG (by rw[q.len,x];exact K)⟩
  obtain⟨z,y⟩:=y;have aa:=q.len.trans x;cases r with
  |cells J S=>
   obtain⟨h,A,j,k,I,F⟩:=o;refine⟨h,A,j,k,bO.cK I ?_,F⟩;rcases O d _ aG with⟨_,_,s,i⟩|i|⟨_,_,_,_,s,_⟩|i
   .grind
   .obtain⟨_,_,_,_,Y,_⟩:=q.box d _ z i y;exact x▸Y.cI q.len
   .cases s
   grind
  |w J T U D=>exact o
  |J H=>exact o
  |M=>trivial
  |loop R Q Z=>
   obtain⟨l,tmps,fn,W,j,k,I,F,X⟩:=o;have key:∃n,g[d]?=f (.loop R Q n):=by
    rcases O d _ aG with⟨_,_,s,_⟩|i|⟨_,_,_,n,s,i⟩|i
    .cases s
    .grind
    .grind
    grind
   obtain⟨n,i⟩:=key;obtain⟨_,_,_,_,_,_,_,V,_⟩:=q.box d _ z i y;exact⟨l,tmps,fn,W,j,k,I,λM=>(F M).drop (x▸(V M).cI q.len),X⟩
  |bo=>exact o
  |q J T U D=>exact o
 .intro d l L C e B h a u;simp only[a5.cut,iq]at e B;split at e<;>split at B<;>first|exact t.a3 d l L C e B h a u|grind|grind
 intro L e h a;exact t.lt L (hh e) h a
def bd.iK{e}(g:bd aO e)(d:bd (aO++bs) b):bd aO (b.cut (c aO)):=g.gZ a (λ_ _ d=>.inr (.inl d)) d
def aJ.e3{u:ag P}{h}(k:aJ u D all s F l (.p (.R (.w (c l) h j V))) (l++[.w W h j V])):aJ u D all s F l (aw (.C v h j V)) l:=by
 intro E y A g w r i x C d a o n;refine k E y A g w r i x C d a o λI e q b t=>?_;have B:eY e (e.cut (c l)):=⟨rfl,λ_ _ _ k=>k,λ_ _ _=>rfl,b.mem,λw a=>a.imp id λ⟨L,z,a⟩=>⟨L,hh z,a⟩⟩
 exact .aU B (n I (e.cut (c l)) q.1 (g.iK b) (t.drop (bE _)))
end drop
end Go.AM
