/- Part 4. No condition. -/
import Derived.Test.YtbaopamghpnebaaGreatDoorA3
import Derived.Conc.WgGenN2
import Derived.Conc.WgGenN3
import Derived.Conc.LeavingOf
import Derived.Below
import Derived.ProofKit
import Derived.OpenShut
import Derived.OpenVars
import Derived.LaidMore
import Derived.Lay
import Derived.SevenTiedAt
import Derived.Lib.Bytealg
import Derived.Conc.DeferLaws
import Derived.Sort.AssemblyPlain
import Derived.Sort.LotD5
set_option linter.all false
set_option maxHeartbeats 8000000
open Go.Proofs
open Go renaming Value → ah, Program → aq, TypeId → aj, Oper → au, Operand → ak, undef → ai, execOp → aw, World → aA, Goroutine → av, stepG → aH, Frame → aR, FuncId → aJ
open Option renaming some → aa, none → ae
open Bool renaming true → ab, false → af
open Go.World renaming cell? → aV
open List renaming getD_eq_getElem?_getD → ar, range → bg
open Go.Sem renaming events_bind → aM
open Go.Result renaming evThen_ok → aO
open Go.Instr renaming sureAddr → bq
open Nat renaming beq → aB, ble → bu
open Go.Op renaming equalIn → aY, bytesLess → bk
open Go.Proofs.Tryz renaming prog → ag
open Go.Conc renaming stepG_seq → aD, stepG_region_end → aC
namespace Go.AM
section
open Go.Conc Go.RowKit Go.Conc.Lib Go.ConcR.Gen
open Go.ConcN (WgLive)
open Go.ConcR (KK WgAt stA smA rd wr mk DC0)
variable {L:WgLink}
section
variable (P:aq)(R:aA->aA->Prop)(L:WgLink)(Wg:Nat)(a:av)
def YO(g:av)(_:aA):Prop:=g.status=.running/\∃g',(∀w,aH P ab g w=.go g' w #[mk .enable])/\∀w1,WgLive L.tWg Wg w1->∃m,Goes P ab R DC0 (λg _=>g=a) m g' w1
def GRd(g:av)(_:aA):Prop:=g.status=.running/\∃g' ad,ad.block=Wg/\(∀w,aH P ab g w=.go g' w #[mk (.read ad)])/\∀w1,WgLive L.tWg Wg w1->∃m,Goes P ab R DC0 (YO P R L Wg a) m g' w1
def GA1(g:av)(w:aA):Prop:=g.status=.running/\∀v:Nat,v<2147483647->WgAt L.tWg Wg w (v*KK) 0 ->
 ∃g',aH P ab g w=.go g' (w.setCell (stA Wg) (.int .u64 ((v+1)*KK))) #[rd (stA Wg),wr (stA Wg)]/\∃m,Goes P ab R DC0 (λg w=>GRd P R L Wg a g w∨YO P R L Wg a g w) m g' (w.setCell (stA Wg) (.int .u64 ((v+1)*KK)))
def GKd(g:av)(_:aA):Prop:=g.status=.running/\∃g',(∀w,aH P ab g w=.go g' w #[mk .disable])/\∀w1,WgLive L.tWg Wg w1->∃m,Goes P ab R DC0 (GA1 P R L Wg a) m g' w1
end
set_option maxRecDepth 100000 in
def Oc{P:aq}(H:WgLib P L){R:aA->aA->Prop}{Wg:Nat}(c:∀{w w1},WgLive L.tWg Wg w->R w w1->WgLive L.tWg Wg w1){b₀:aR}{a₀:Act}{ops₀:Array au}{i₀:Nat}{rest₀:List Nat}{k₀:List Item}{cs:List aR}(w:aA)(b:WgLive L.tWg Wg w):
  Goes P ab R DC0 (GKd P R L Wg (G (b₀.at (a₀.put ((ops₀[i₀]?).bind (·.dst)) (.tuple #[])) (.inRegion ops₀ rest₀::k₀)) cs)) 12
   (G ((base L.add).at ⟨#[.pointer (aa ⟨Wg,0,ae⟩),.int .i64 1,ai,ai,ai,ai,ai,ai,ai,ai,ai,ai,ai,ai,ai,ai,ai,ai,ai,ai,ai,ai,ai,ai,ai,ai,ai,ai,ai,ai,ai,ai,ai,ai,ai,ai,ai,ai,ai,ai,ai,ai,ai,ai,ai,ai,ai,ai,ai,ai,ai,ai,ai,ai,ai,ai,ai,ai,ai,ai,ai,ai,ai,ai,ai,ai,ai,ai,ai,ai,ai,ai,ai,ai,ai,ai,ai,ai,ai,ai,ai,ai,ai,ai,ai,ai,ai,ai,ai,ai,ai,ai,ai,ai,ai,ai,ai,ai,ai,ai,ai,ai,ai,ai,ai,ai,ai,ai,ai,ai,ai,ai,ai,ai,ai,ai,ai],[]⟩ [.code (body_add L)]) (b₀.at a₀ (.inRegion ops₀ (i₀::rest₀)::k₀)::cs)) w:=by
 lib_facts
 simp only[body_add,addFn,im]
 repeat (u_c aD c b)
 u_cond ab c b
 repeat (u_c aD c b)
 u_reg c b
 u_op c b
 u_op c b
 u_c aC c b
 repeat (u_c aD c b)
 u_cond af c b
 u_c stepG_skip c b
 repeat (u_c aD c b)
 u_reg c b
 refine Goes.stop (λl h=>?_);refine⟨rfl,_,λw=>stepG_mark0 .disable (by simp) rfl rfl (by k_ne) rfl H.f_disable (x_disable_n L) (x_disable_b L) (x_disable_x L) (x_disable_f L),λw b=>?_⟩;clear h;refine⟨40,?_⟩
 walk_nrm
 u_c aC c b
 repeat (u_c aD c b)
 u_reg c b
 u_defer c b
 u_c aC c b
 repeat (u_c aD c b)
 u_reg c b
 u_op c b
 u_c aC c b
 repeat (u_c aD c b)
 u_reg c b
 u_bub c b
 u_c aC c b
 repeat (u_c aD c b)
 u_cond af c b
 u_c stepG_skip c b
 repeat (u_c aD c b)
 u_reg c b
 u_op c b
 u_op c b
 u_op c b
 u_op c b
 u_op c b
 u_op c b
 u_call H.f_uAdd (nm_uAdd L) uAddFn c b
 repeat (u_c aD c b)
 u_reg c b
 u_op c b
 u_c aC c b
 repeat (u_c aD c b)
 u_reg c b
 u_op c b
 u_op c b
 u_op c b
 u_op c b
 refine Goes.stop (λg e=>?_);replace b:=c b e;clear e;refine⟨rfl,λv u j=>?_⟩;have k:KK=4294967296:=rfl;have p:IntKind.u64.wrap ((v:Int)*KK+4294967296)=((v:Int)+1)*KK:=by rw[IntKind.wrap_u64];simp only[k];omega
 refine⟨_,(stepG_add_atomic rfl rfl (by k_ne) rfl H.f_addU64 (x_addU64_n L) (x_addU64_b L) (x_addU64_x L) .u64 (x_addU64_f L) rfl rfl j.cellSt (j.thaw 0)).trans (by rw[p];rfl),110,?_⟩;replace b:WgLive L.tWg Wg (g.setCell (stA Wg) (.int .u64 (((v:Int)+1)*KK))):=⟨_,_,j.setSt _⟩
 clear j
 walk_nrm
 u_op c b
 u_c aC c b
 u_c stepG_ret' c b
 u_leave1 H.f_uAdd c b
 u_op c b
 u_c aC c b
 have x:bits .and .u64 (((v:Int)+1)*4294967296) 2147483648=0:=by have:=Go.ConcN.st_flag (v+1) 0 (by omega) (by omega);grind
 have q:bits .and .u64 (((v:Int)+1)*4294967296) 2147483647=0:=by have:=Go.ConcN.st_waiters (v+1) 0 (by omega) (by omega);grind
 have r:((v:Int)+1+2147483648) % 4294967296-2147483648=(v:Int)+1:=by omega
 have t:¬((v:Int)+1<0):=by omega
 have s:(0:Int)<(v:Int)+1:=by omega
 repeat (u_c aD c b)
 u_reg c b
 u_op c b
 u_op c b
 u_op c b
 u_op c b
 u_skip c b
 u_skip c b
 u_op c b
 u_c aC c b
 repeat (u_c aD c b)
 u_cond af c b
 u_c stepG_skip c b
 repeat (u_c aD c b)
 u_reg c b
 u_op c b
 u_op c b
 u_op c b
 u_op c b
 u_c aC c b
 repeat (u_c aD c b)
 u_reg c b
 u_op c b
 u_op c b
 u_op c b
 u_op c b
 u_c aC c b
 by_cases o:(v:Int)+1=1
 .repeat (u_c aD c b)
  u_reg c b
  u_op c b
  u_op c b
  u_op c b
  u_op c b
  u_op c b
  u_op c b
  u_op c b
  u_op c b
  u_op c b
  u_op c b
  u_c aC c b
  repeat (u_c aD c b)
  u_cond ab c b
  repeat (u_c aD c b)
  u_reg c b
  u_op c b
  u_op c b
  u_op c b
  u_conv H.underlying_tPU32 H.room_tU32 (Go.ConcN.Gen.WgLive.cell1 b).choose_spec c b
  refine Goes.stop (λm i=>.inl ?_);clear i;refine⟨rfl,_,⟨Wg,1,ae⟩,rfl,λw=>stepG_markAt .read (by simp) rfl rfl (by k_ne) rfl H.f_raceRead (x_raceRead_n L) (x_raceRead_b L) (x_raceRead_x L) (x_raceRead_f L) (ad:=⟨Wg,1,ae⟩) (by simp[Act.eval]),λw b=>⟨50,?_⟩⟩
  walk_nrm
  u_c aC c b
  repeat (u_c aD c b)
  u_reg c b
  u_op c b
  u_op c b
  u_c aC c b
  repeat (u_c aD c b)
  u_cond af c b
  u_c stepG_skip c b
  repeat (u_c aD c b)
  u_reg c b
  u_op c b
  u_op c b
  u_op c b
  u_skip c b
  u_skip c b
  u_op c b
  u_op c b
  u_skip c b
  u_skip c b
  u_skip c b
  u_skip c b
  u_op c b
  u_c aC c b
  repeat (u_c aD c b)
  u_cond af c b
  u_c stepG_skip c b
  repeat (u_c aD c b)
  u_reg c b
  u_op c b
  u_op c b
  u_op c b
  u_skip c b
  u_skip c b
  u_op c b
  u_c aC c b
  repeat (u_c aD c b)
  u_cond ab c b
  u_c stepG_ret' c b
  refine Goes.stop (λf d=>?_);clear d;refine⟨rfl,_,λw=>stepG_unwind_entry (v:=.tuple #[]) (evs:=#[mk .enable]) rfl H.f_enable (x_enable_n L) (x_enable_b L) (x_enable_x L) (x_enable_f L) (by simp[Extern.Race.none_]) (by simp[mk]) (by simp[mk]),λw b=>⟨1,?_⟩⟩
  u_leave0 H.f_add c b
  grind[Goes.stop]
 .have n:((v:Int)+1==1)=af:=by grind
  repeat (u_c aD c b)
  u_reg c b
  u_op c b
  u_op c b
  u_op c b
  u_op c b
  u_op c b
  u_op c b
  u_op c b
  u_op c b
  u_op c b
  u_op c b
  u_c aC c b
  repeat (u_c aD c b)
  u_cond af c b
  u_c stepG_skip c b
  repeat (u_c aD c b)
  u_reg c b
  u_op c b
  u_op c b
  u_c aC c b
  repeat (u_c aD c b)
  u_cond af c b
  u_c stepG_skip c b
  repeat (u_c aD c b)
  u_reg c b
  u_op c b
  u_op c b
  u_op c b
  u_skip c b
  u_skip c b
  u_op c b
  u_op c b
  u_skip c b
  u_skip c b
  u_skip c b
  u_skip c b
  u_op c b
  u_c aC c b
  repeat (u_c aD c b)
  u_cond af c b
  u_c stepG_skip c b
  repeat (u_c aD c b)
  u_reg c b
  u_op c b
  u_op c b
  u_op c b
  u_skip c b
  u_skip c b
  u_op c b
  u_c aC c b
  repeat (u_c aD c b)
  u_cond ab c b
  u_c stepG_ret' c b
  refine Goes.stop (λf d=>.inr ?_);clear d;refine⟨rfl,_,λw=>stepG_unwind_entry (v:=.tuple #[]) (evs:=#[mk .enable]) rfl H.f_enable (x_enable_n L) (x_enable_b L) (x_enable_x L) (x_enable_f L) (by simp[Extern.Race.none_]) (by simp[mk]) (by simp[mk]),λw b=>⟨1,?_⟩⟩
  u_leave0 H.f_add c b
  grind[Goes.stop]
end
section
open Go.Conc Go.RowKit Go.Conc.Lib Go.ConcR.Gen
open Go.ConcN (WgLive)
open Go.ConcR (KK WgAt stA smA rd wr mk DC0)
section
variable (P:aq)(R:aA->aA->Prop)(L:WgLink)(Wg:Nat)(a:av)(b:av->Prop)
def Vd(g:av)(_:aA):Prop:=g.status=.running/\∃g',(∀w,aH P ab g w=.go g' w #[mk (.acquire (stA Wg))])/\∀w1,WgLive L.tWg Wg w1->∃m,Goes P ab R DC0 (λg _=>g=a) m g' w1
def YP(g:av)(_:aA):Prop:=g.status=.running/\∃g',(∀w,aH P ab g w=.go g' w #[mk .enable])/\∀w1,WgLive L.tWg Wg w1->∃m,Goes P ab R DC0 (Vd P R L Wg a) m g' w1
def HW4(g:av)(w:aA):Prop:=g.status=.running/\(WgAt L.tWg Wg w 0 0->∃g',aH P ab g w=.go g' w #[rd (stA Wg)]/\∃m,Goes P ab R DC0 (YP P R L Wg a) m g' w)
def HW3(g:av)(w:aA):Prop:=g.status=.running/\g.offers=ae/\((∃st,WgAt L.tWg Wg w st 0)->aH P ab g w=.go {g with status:=.blocked} w #[]) /\
 (WgAt L.tWg Wg w 0 1->∃g',aH P ab g w=.go g' (w.setCell (smA Wg) (.int .u32 0)) (semEvents (smA Wg))/\∃m,Goes P ab R DC0 (HW4 P R L Wg a) m g' (w.setCell (smA Wg) (.int .u32 0)))
def HWr(g:av)(_:aA):Prop:=g.status=.running/\∃g' ad,ad.block=Wg/\(∀w,aH P ab g w=.go g' w #[mk (.write ad)])/\∀w1,WgLive L.tWg Wg w1->∃m,Goes P ab R DC0 (HW3 P R L Wg a) m g' w1
def HW2(vs:Nat)(g:av)(w:aA):Prop:=g.status=.running/\∀v:Nat,v<2147483648->WgAt L.tWg Wg w (v*KK) 0 ->
 (v=vs->∃g',aH P ab g w=.go g' (w.setCell (stA Wg) (.int .u64 (v*KK+1))) #[rd (stA Wg),wr (stA Wg)]/\∃m,Goes P ab R DC0 (HWr P R L Wg a) m g' (w.setCell (stA Wg) (.int .u64 (v*KK+1)))) /\
 (v≠vs->∃g',aH P ab g w=.go g' w #[rd (stA Wg)]/\∃m,Goes P ab R DC0 (λg _=>b g) m g' w)
def HW1(g:av)(w:aA):Prop:=g.status=.running/\∀v:Nat,v<2147483648->WgAt L.tWg Wg w (v*KK) 0 ->
 ∃g',aH P ab g w=.go g' w #[rd (stA Wg)]/\(v=0->∃m,Goes P ab R DC0 (YP P R L Wg a) m g' w)/\(v≠0->∃m,Goes P ab R DC0 (HW2 P R L Wg a b v) m g' w)
def HKd(g:av)(_:aA):Prop:=g.status=.running/\∃g',(∀w,aH P ab g w=.go g' w #[mk .disable])/\∀w1,WgLive L.tWg Wg w1->∃m,Goes P ab R DC0 (λg _=>b g) m g' w1
end
def R0(L:WgLink)(Wg:Nat)(c:aR)(cs:List aR)(g:av):Prop :=
 ∃T:Array ah,g=G ((base L.wait).at ⟨T,[]⟩ [.code (L7 L),.inLoop (L7 L),.inBlock 0]) (c::cs)/\T.size=84/\T[0]?=aa (.pointer (aa ⟨Wg,0,ae⟩))
set_option maxRecDepth 100000 in
def Ek{L:WgLink}{P:aq}(H:WgLib P L){R:aA->aA->Prop}{Wg:Nat}(b:∀{w w1},WgLive L.tWg Wg w->R w w1->WgLive L.tWg Wg w1){c:aR}{cs:List aR}(w:aA)(a:WgLive L.tWg Wg w):
  Goes P ab R DC0 (HKd P R L Wg (R0 L Wg c cs)) 6 (G ((base L.wait).at ⟨#[.pointer (aa ⟨Wg,0,ae⟩),ai,ai,ai,ai,ai,ai,ai,ai,ai,ai,ai,ai,ai,ai,ai,ai,ai,ai,ai,ai,ai,ai,ai,ai,ai,ai,ai,ai,ai,ai,ai,ai,ai,ai,ai,ai,ai,ai,ai,ai,ai,ai,ai,ai,ai,ai,ai,ai,ai,ai,ai,ai,ai,ai,ai,ai,ai,ai,ai,ai,ai,ai,ai,ai,ai,ai,ai,ai,ai,ai,ai,ai,ai,ai,ai,ai,ai,ai,ai,ai,ai,ai,ai],[]⟩ [.code (body_wait L)]) (c::cs)) w:=by
 lib_facts
 unfold R0;simp only[L7,body_wait,waitFn,im]
 repeat (u_c aD b a)
 u_cond ab b a
 repeat (u_c aD b a)
 u_reg b a
 refine Goes.stop (λe d=>?_);clear d;refine⟨rfl,_,λw=>stepG_mark0 .disable (by simp) rfl rfl (by k_ne) rfl H.f_disable (x_disable_n L) (x_disable_b L) (x_disable_x L) (x_disable_f L),λw a=>⟨6,?_⟩⟩
 walk_nrm
 u_c aC b a
 repeat (u_c aD b a)
 u_c stepG_block b a
 u_c stepG_loop b a
 exact Goes.stop λ_ _=>⟨_,rfl,rfl,rfl⟩
end
section
open Go.Conc Go.RowKit Go.Conc.Lib Go.ConcR.Gen
open Go.ConcN (WgLive)
open Go.ConcN.Gen
open Go.ConcR (KK WgAt stA smA rd wr mk DC0)
set_option maxRecDepth 100000 in
def Ej{L:WgLink}{P:aq}(H:WgLib P L){R:aA->aA->Prop}{Wg:Nat}(b:∀{w w1},WgLive L.tWg Wg w->R w w1->WgLive L.tWg Wg w1){b₀:aR}{a₀:Act}{ops₀:Array au}{i₀:Nat}{rest₀:List Nat}{k₀:List Item}{cs:List aR}(g:av)(B:R0 L Wg (b₀.at a₀ (.inRegion ops₀ (i₀::rest₀)::k₀)) cs g)(w:aA)(a:WgLive L.tWg Wg w):
  ∃m,Goes P ab R DC0 (HW1 P R L Wg (G (b₀.at (a₀.put ((ops₀[i₀]?).bind (·.dst)) (.tuple #[])) (.inRegion ops₀ rest₀::k₀)) cs) (R0 L Wg (b₀.at a₀ (.inRegion ops₀ (i₀::rest₀)::k₀)) cs)) m g w:=by
 lib_facts
 obtain⟨T,rfl,o,s⟩:=B;obtain⟨v0,v1,v2,v3,v4,v5,v6,v7,v8,v9,v10,v11,C,v13,v14,x,v16,v17,v18,K,v20,v21,A,v23,v24,v25,v26,v27,v28,D,v30,v31,F,y,U,v35,v36,v37,v38,v39,v40,v41,v42,J,v44,O,N,v47,u,V,M,v51,v52,v53,v54,v55,v56,W,v58,v59,v60,v61,v62,z,v64,v65,Z,v67,v68,Q,v70,Y,X,v73,v74,v75,v76,v77,v78,I,v80,v81,v82,v83,rfl⟩:=array84 T o;simp only[ik,la,dm]at s;subst s;refine⟨30,?_⟩;unfold R0;simp only[L7,body_wait,waitFn,im]
 u_c stepG_block b a
 repeat (u_c aD b a)
 u_reg b a
 u_op b a
 u_op b a
 u_op b a
 u_call H.f_uLoad (nm_uLoad L) uLoadFn b a
 repeat (u_c aD b a)
 u_reg b a
 u_op b a
 u_c aC b a
 repeat (u_c aD b a)
 u_reg b a
 u_op b a
 u_op b a
 u_op b a
 refine Goes.stop (λp k=>?_);replace a:=b a k;clear k;refine⟨rfl,λv hv d=>?_⟩;rcases mS v with rfl|E
 .replace d:WgAt L.tWg Wg p 0 0:=by grind
  refine⟨_,stepG_load_atomic (v:=0) rfl rfl (by k_ne) rfl H.f_loadU64 (x_loadU64_n L) (x_loadU64_b L) (x_loadU64_x L) .u64 (x_loadU64_f L) rfl d.cellSt,λ_=>⟨80,?_⟩,λh=>absurd rfl h⟩;clear d
  walk_nrm
  u_op b a
  u_c aC b a
  u_c stepG_ret' b a
  u_leave1 H.f_uLoad b a
  u_op b a
  u_c aC b a
  repeat (u_c aD b a)
  u_reg b a
  u_op b a
  u_op b a
  u_op b a
  u_op b a
  u_c aC b a
  repeat (u_c aD b a)
  u_reg b a
  u_op b a
  u_op b a
  u_op b a
  u_op b a
  u_c aC b a
  repeat (u_c aD b a)
  u_reg b a
  u_op b a
  u_op b a
  u_c aC b a
  repeat (u_c aD b a)
  u_cond ab b a
  repeat (u_c aD b a)
  u_cond ab b a
  repeat (u_c aD b a)
  u_reg b a
  refine Goes.stop (λf c=>?_);clear c;refine⟨rfl,_,λw=>stepG_mark0 .enable (by simp) rfl rfl (by k_ne) rfl H.f_enable (x_enable_n L) (x_enable_b L) (x_enable_x L) (x_enable_f L),λw a=>⟨20,?_⟩⟩
  walk_nrm
  u_c aC b a
  repeat (u_c aD b a)
  u_reg b a
  u_op b a
  u_conv H.underlying_tWgP H.room_tWg (Go.ConcN.Gen.WgLive.cell0 a).choose_spec b a
  refine Goes.stop (λf c=>?_);clear c;refine⟨rfl,_,λw=>stepG_markAt .acquire (by simp) rfl rfl (by k_ne) rfl H.f_acquire (x_acquire_n L) (x_acquire_b L) (x_acquire_x L) (x_acquire_f L) (by simp[Act.eval,stA]),λw a=>⟨40,?_⟩⟩
  walk_nrm
  u_c aC b a
  repeat (u_c aD b a)
  u_reg b a
  u_op b a
  u_op b a
  u_op b a
  u_op b a
  u_op b a
  u_op b a
  u_op b a
  u_op b a
  u_skip b a
  u_skip b a
  u_op b a
  u_c aC b a
  repeat (u_c aD b a)
  u_cond af b a
  u_c stepG_skip b a
  u_c stepG_ret' b a
  u_leave0 H.f_wait b a
  grind[Goes.stop]
 .obtain⟨S,l⟩:∃S:Int,(v:Int)*KK=S:=⟨_,rfl⟩;have a1:S / 4294967296=(v:Int):=by rw[<-l];simp only[KK];omega
  have b1:bits .and .u64 S 2147483648=0:=by rw[<-l];have:=Go.ConcN.st_flag v 0 (by omega) (by omega);simpa[KK]using this
  have b2:bits .and .u64 S 2147483647=0:=by rw[<-l];have:=Go.ConcN.st_waiters v 0 (by omega) (by omega);simpa[KK]using this
  have c1:IntKind.i32.wrap (v:Int)=(v:Int):=by grind[IntKind.wrap_i32]
  have w1:IntKind.u64.wrap (S+1)=S+1:=by rw[IntKind.wrap_u64,<-l];simp only[KK];omega
  have q3:decide ((v:Int)<0)=af:=iN (by omega);have q4:decide (0<(v:Int))=ab:=c8 (by omega);have q5:((v:Int)==0)=af:=by grind
  have q6:decide ((v:Int)=0)=af:=iN (by omega);rw[l]at d;refine⟨_,stepG_load_atomic (v:=S) rfl rfl (by k_ne) rfl H.f_loadU64 (x_loadU64_n L) (x_loadU64_b L) (x_loadU64_x L) .u64 (x_loadU64_f L) rfl d.cellSt,λh0=>absurd h0 (by omega),λ_=>⟨80,?_⟩⟩;clear d
  walk_nrm
  u_op b a
  u_c aC b a
  u_c stepG_ret' b a
  u_leave1 H.f_uLoad b a
  u_op b a
  u_c aC b a
  repeat (u_c aD b a)
  u_reg b a
  u_op b a
  u_op b a
  u_op b a
  u_op b a
  u_c aC b a
  repeat (u_c aD b a)
  u_reg b a
  u_op b a
  u_op b a
  u_op b a
  u_op b a
  u_c aC b a
  repeat (u_c aD b a)
  u_reg b a
  u_op b a
  u_op b a
  u_c aC b a
  repeat (u_c aD b a)
  u_cnd af b a
  u_c stepG_skip b a
  repeat (u_c aD b a)
  u_reg b a
  u_op b a
  u_op b a
  u_op b a
  u_op b a
  u_op b a
  u_op b a
  u_call H.f_uCas (nm_uCas L) uCasFn b a
  repeat (u_c aD b a)
  u_reg b a
  u_op b a
  u_c aC b a
  repeat (u_c aD b a)
  u_reg b a
  u_op b a
  u_op b a
  u_op b a
  u_op b a
  u_op b a
  refine Goes.stop (λf c=>?_);replace a:=b a c;clear c;refine⟨rfl,λv' WT d=>⟨λe=>?_,λe=>?_⟩⟩
  .subst e;rw[l]at d⊢;refine⟨_,(stepG_cas_hit (v:=S) (n:=S+1) rfl rfl (by k_ne) rfl H.f_casU64 (x_casU64_n L) (x_casU64_b L) (x_casU64_x L) .u64 (x_casU64_f L) rfl rfl rfl d.cellSt (d.thaw 0)).trans (by rfl),90,?_⟩;replace a:WgLive L.tWg Wg (f.setCell (stA Wg) (.int .u64 (S+1))):=⟨_,_,d.setSt _⟩
   clear d
   walk_nrm
   u_op b a
   u_c aC b a
   u_c stepG_ret' b a
   u_leave1 H.f_uCas b a
   u_c aC b a
   repeat (u_c aD b a)
   u_cond ab b a
   repeat (u_c aD b a)
   u_reg b a
   u_op b a
   u_op b a
   u_op b a
   u_op b a
   u_c aC b a
   repeat (u_c aD b a)
   u_cond ab b a
   repeat (u_c aD b a)
   u_reg b a
   u_op b a
   u_op b a
   u_op b a
   u_conv H.underlying_tPU32 H.room_tU32 (Go.ConcN.Gen.WgLive.cell1 a).choose_spec b a
   refine Goes.stop (λf c=>?_);clear c;refine⟨rfl,_,⟨Wg,1,ae⟩,rfl,λw=>stepG_markAt .write (by simp) rfl rfl (by k_ne) rfl H.f_raceWrite (x_raceWrite_n L) (x_raceWrite_b L) (x_raceWrite_x L) (x_raceWrite_f L) (ad:=⟨Wg,1,ae⟩) (by simp[Act.eval]),λw a=>⟨60,?_⟩⟩
   walk_nrm
   u_c aC b a
   repeat (u_c aD b a)
   u_reg b a
   u_op b a
   u_c aC b a
   repeat (u_c aD b a)
   u_reg b a
   u_op b a
   u_op b a
   u_op b a
   u_op b a
   u_skip b a
   u_op b a
   u_c aC b a
   repeat (u_c aD b a)
   u_cond af b a
   u_c stepG_skip b a
   repeat (u_c aD b a)
   u_reg b a
   u_op b a
   u_op b a
   u_op b a
   u_op b a
   refine Goes.stop (λq j=>?_);replace a:=b a j;clear j;refine⟨rfl,rfl,λ⟨st,d⟩=>stepG_semacquire_wait rfl rfl rfl H.f_semacquire (x_semacquire_n L) (x_semacquire_b L) (x_semacquire_x L) (x_semacquire_f L) (by simp[Act.eval,smA]) d.cellSm,λr=>?_⟩;refine⟨_,(stepG_semacquire (n:=1) rfl rfl (by k_ne) rfl H.f_semacquire (x_semacquire_n L) (x_semacquire_b L) (x_semacquire_x L) (x_semacquire_f L) (by simp[Act.eval,smA]) r.cellSm (by k_ne) (r.thaw 1)).trans (by rfl),40,?_⟩;replace a:WgLive L.tWg Wg (q.setCell (smA Wg) (.int .u32 0)):=⟨_,_,r.setSm 0⟩
   clear r
   walk_nrm
   u_c aC b a
   repeat (u_c aD b a)
   u_reg b a
   u_op b a
   u_op b a
   u_op b a
   u_call H.f_uLoad (nm_uLoad L) uLoadFn b a
   repeat (u_c aD b a)
   u_reg b a
   u_op b a
   u_c aC b a
   repeat (u_c aD b a)
   u_reg b a
   u_op b a
   u_op b a
   u_op b a
   refine Goes.stop (λt i=>?_);replace a:=b a i;clear i;refine⟨rfl,λd=>⟨_,stepG_load_atomic (v:=0) rfl rfl (by k_ne) rfl H.f_loadU64 (x_loadU64_n L) (x_loadU64_b L) (x_loadU64_x L) .u64 (x_loadU64_f L) rfl d.cellSt,40,?_⟩⟩;clear d
   walk_nrm
   u_op b a
   u_c aC b a
   u_c stepG_ret' b a
   u_leave1 H.f_uLoad b a
   u_op b a
   u_op b a
   u_c aC b a
   repeat (u_c aD b a)
   u_cond ab b a
   repeat (u_c aD b a)
   u_reg b a
   refine Goes.stop (λf c=>?_);clear c;refine⟨rfl,_,λw=>stepG_mark0 .enable (by simp) rfl rfl (by k_ne) rfl H.f_enable (x_enable_n L) (x_enable_b L) (x_enable_x L) (x_enable_f L),λw a=>⟨20,?_⟩⟩
   walk_nrm
   u_c aC b a
   repeat (u_c aD b a)
   u_reg b a
   u_op b a
   u_conv H.underlying_tWgP H.room_tWg (Go.ConcN.Gen.WgLive.cell0 a).choose_spec b a
   refine Goes.stop (λf c=>?_);clear c;refine⟨rfl,_,λw=>stepG_markAt .acquire (by simp) rfl rfl (by k_ne) rfl H.f_acquire (x_acquire_n L) (x_acquire_b L) (x_acquire_x L) (x_acquire_f L) (by simp[Act.eval,stA]),λw a=>⟨40,?_⟩⟩
   walk_nrm
   u_c aC b a
   repeat (u_c aD b a)
   u_reg b a
   u_op b a
   u_c aC b a
   repeat (u_c aD b a)
   u_cond af b a
   u_c stepG_skip b a
   u_c stepG_ret' b a
   u_leave0 H.f_wait b a
   grind[Goes.stop]
  .refine⟨_,stepG_cas_miss (v:=(v':Int)*KK) (old:=S) (n:=S+1) rfl rfl (by k_ne) rfl H.f_casU64 (x_casU64_n L) (x_casU64_b L) (x_casU64_x L) .u64 (x_casU64_f L) rfl rfl rfl d.cellSt (d.thaw 0) (by rw[<-l];simp only[KK];omega),30,?_⟩;clear d
   walk_nrm
   u_op b a
   u_c aC b a
   u_c stepG_ret' b a
   u_leave1 H.f_uCas b a
   u_c aC b a
   repeat (u_c aD b a)
   u_cond af b a
   u_c stepG_skip b a
   u_c stepG_inBlock b a
   u_c stepG_inLoop b a
   exact Goes.stop λ_ _=>⟨_,rfl,by simp,by simp⟩
end
section
open Go.Conc Go.Conc.Lib
open Go.ConcN (WgLive)
open Go.ConcR (KK WgAt stA smA rd wr mk DC0 Payload)
def fy(ty:aj)(Wg:Nat)(w w1:aA):Prop:=WgLive ty Wg w->WgLive ty Wg w1
def fy.refl{ty:aj}{Wg:Nat}(w:aA):fy ty Wg w w:=id
def fy.trans{ty:aj}{Wg:Nat}{a b c:aA}(h:fy ty Wg a b)(k:fy ty Wg b c):fy ty Wg a c:=λx=>k (h x)
def yb(R:aA->aA->Prop)(Stop:av->aA->Prop)(g:av)(w:aA):Prop:=∀w1,R w w1->Stop g w1
def Goes.all{P:aq}{main:Bool}{R:aA->aA->Prop}{D:aA->aA->Array Event->Prop}{Stop:av->aA->Prop}(hT:∀a b c,R a b->R b c->R a c):
  ∀{n:Nat} {g:av} {w:aA},Goes P main R D Stop n g w->Goes P main R D (yb R Stop) n g w
 |0,g,w,h=>λw1 l w2 p=>h w2 (hT _ _ _ l p)
 |n+1,g,w,h=>by
  rcases h with h|⟨d,h⟩
  .exact .inl λw1 l w2 p=>h w2 (hT _ _ _ l p)
  .refine .inr ⟨d,λw1 l=>?_⟩;have p:=h w1 l;cases j:aH P main g w1 with
   |go g' w' es =>
    rw[j,goes_go]at p;rw[goes_go];exact⟨p.1,Goes.all hT p.2⟩
   |_=>rw[j]at p;exact p.elim
structure Apart(Wg:Nat)(F:St->Prop):Prop where
 rely:∀s s',F s->ck s s'->F s'
 heap:∀s,F s->∃σ,aF σ s
 free:∀s,F s->¬s.own Wg/\(∀L∈s.β,Wg∉L.bs)/\∀o,s.M Wg o=ae
section
variable {P:aq}{L:WgLink}{Wg:Nat}{F:St->Prop}
def yH(ty:aj)(Wg:Nat)(F:St->Prop)(s:St):Prop:=F s/\WgLive ty Wg s.w
def Apart.Qe(A:Apart Wg F){s:St}(h:F s):gL s:=(A.heap s h).choose_spec.mem
def Apart.set(A:Apart Wg F){s:St}(h:F s)(a:Addr)(x:a.block=Wg)(v:ah):ck s {s with w:=s.w.setCell a v}:=by
 obtain⟨l,p,y⟩:=A.free s h;have hk:∀b,b≠Wg->(s.w.setCell a v).heap[b]?=s.w.heap[b]?:=λb k=>by have:=(aside_setCell s.w a v).block b (by grind);exact this
 refine⟨rfl,rfl,rfl,Nat.le_of_eq (aside_setCell s.w a v).size.symm,λb k=>hk b ?_,λb o u j=>?_,(aside_setCell s.w a v).os,(aside_setCell s.w a v).tape,(aside_setCell s.w a v).output⟩
 .grind
 .have E:b≠Wg:=by grind
  show(s.w.setCell a v).cell? _=_;rw[jN (hk b E) o];exact A.Qe h b o u j
def Apart.next(A:Apart Wg F){ty:aj}{s i:St}(h:yH ty Wg F s)(r:(Cx.lead P ty Wg).rely s i):yH ty Wg F i:=⟨A.rely s i h.1 r.1,r.2 h.2⟩
def Apart.here(A:Apart Wg F){ty:aj}{s:St}(h:yH ty Wg F s):(Cx.lead P ty Wg).rely s s:=⟨ck.wB (A.Qe h.1),id⟩
def Apart.goes(A:Apart Wg F){ty:aj}{S:av->St->Prop}{Stop:av->aA->Prop}(k:∀g s,yH ty Wg F s->yb (fy ty Wg) Stop g s.w->er (Cx.lead P ty Wg) (Es Wg) S g s){n:Nat}{g:av}{s:St}(d:yH ty Wg F s)(h:Goes P ab (fy ty Wg) DC0 Stop n g s.w):er (Cx.lead P ty Wg) (Es Wg) S g s:=by refine er.goes (X:=Cx.lead P ty Wg) (R:=fy ty Wg) (D:=DC0) (Stop:=yb (fy ty Wg) Stop) (yH ty Wg F) (λs i hi f=>A.next hi f) (λs i _ f=>f.2) ?_ (λs hi=>A.here hi) k n g s d (Goes.all (λ_ _ _ l p=>l.trans p) h);rintro s es hi w' ⟨rfl,rfl⟩;exact⟨rfl,.inl (.quiet (A.heap s hi.1).choose_spec)⟩
end
set_option maxRecDepth 100000 in
def Ei{P:aq}{L:WgLink}(H:WgLib P L){Wg:Nat}:Frame.enter P L.add #[.pointer (aa ⟨Wg,0,ae⟩),.int .i64 1] .normal=(base L.add).at ⟨#[.pointer (aa ⟨Wg,0,ae⟩),.int .i64 1,ai,ai,ai,ai,ai,ai,ai,ai,ai,ai,ai,ai,ai,ai,ai,ai,ai,ai,ai,ai,ai,ai,ai,ai,ai,ai,ai,ai,ai,ai,ai,ai,ai,ai,ai,ai,ai,ai,ai,ai,ai,ai,ai,ai,ai,ai,ai,ai,ai,ai,ai,ai,ai,ai,ai,ai,ai,ai,ai,ai,ai,ai,ai,ai,ai,ai,ai,ai,ai,ai,ai,ai,ai,ai,ai,ai,ai,ai,ai,ai,ai,ai,ai,ai,ai,ai,ai,ai,ai,ai,ai,ai,ai,ai,ai,ai,ai,ai,ai,ai,ai,ai,ai,ai,ai,ai,ai,ai,ai,ai,ai,ai,ai,ai,ai],[]⟩ [.code (Go.ConcR.Gen.body_add L)] :=
 (enter_at (c:=Go.ConcR.Gen.body_add L) _ H.f_add (by kernel_rfl)).trans (by kernel_rfl)
set_option maxRecDepth 100000 in
def Cd{P:aq}{L:WgLink}(H:WgLib P L){Wg:Nat}:Frame.enter P L.wait #[.pointer (aa ⟨Wg,0,ae⟩)] .normal=(base L.wait).at ⟨#[.pointer (aa ⟨Wg,0,ae⟩),ai,ai,ai,ai,ai,ai,ai,ai,ai,ai,ai,ai,ai,ai,ai,ai,ai,ai,ai,ai,ai,ai,ai,ai,ai,ai,ai,ai,ai,ai,ai,ai,ai,ai,ai,ai,ai,ai,ai,ai,ai,ai,ai,ai,ai,ai,ai,ai,ai,ai,ai,ai,ai,ai,ai,ai,ai,ai,ai,ai,ai,ai,ai,ai,ai,ai,ai,ai,ai,ai,ai,ai,ai,ai,ai,ai,ai,ai,ai,ai,ai,ai,ai],[]⟩ [.code (Go.ConcR.Gen.body_wait L)] :=
 (enter_at (c:=Go.ConcR.Gen.body_wait L) _ H.f_wait (by kernel_rfl)).trans (by kernel_rfl)
section
variable [Payload]{P:aq}{L:WgLink}{Y:Lay}{F:St->Prop}{N n:Nat}{val:Nat->Nat->ah}
def YN(H:WgLib P L)(A:Apart Y.Wg F){j:Nat}{Next:av->St->Prop}{b₀:aR}{a₀:Act}{ops₀:Array au}{i₀:Nat}{rest₀:List Nat}{k₀:List Item}{cs:List aR}(o:∀s,yH L.tWg Y.Wg F s->er (Cx.lead P L.tWg Y.Wg) (Es Y.Wg) (AtGo P L.tWg Y N val j Next) (G (b₀.at (a₀.put ((ops₀[i₀]?).bind (·.dst)) (.tuple #[])) (.inRegion ops₀ rest₀::k₀)) cs) s){s:St}(d:yH L.tWg Y.Wg F s):
  er (Cx.lead P L.tWg Y.Wg) (Es Y.Wg) (AtKdS P L.tWg Y N val j Next) (G (Frame.enter P L.add #[.pointer (aa ⟨Y.Wg,0,ae⟩),.int .i64 1] .normal) (b₀.at a₀ (.inRegion ops₀ (i₀::rest₀)::k₀)::cs)) s:=by
 have z:∀g s,yH L.tWg Y.Wg F s->YO P (fy L.tWg Y.Wg) L Y.Wg (G (b₀.at (a₀.put ((ops₀[i₀]?).bind (·.dst)) (.tuple #[])) (.inRegion ops₀ rest₀::k₀)) cs) g s.w->er (Cx.lead P L.tWg Y.Wg) (Es Y.Wg) (AtKeS P L.tWg Y N val j Next) g s:=by rintro g s d ⟨l,g',p,y⟩;refine⟨.leaf,l,g',p,λi f=>?_⟩;have a:=A.next d f;obtain⟨m,q⟩:=y i.w a.2;exact A.goes (λg s d h=>by obtain rfl:=h s.w (.refl _);grind) a q
 have b:∀g s,yH L.tWg Y.Wg F s->yb (fy L.tWg Y.Wg) (GA1 P (fy L.tWg Y.Wg) L Y.Wg (G (b₀.at (a₀.put ((ops₀[i₀]?).bind (·.dst)) (.tuple #[])) (.inRegion ops₀ rest₀::k₀)) cs)) g s.w->er (Cx.lead P L.tWg Y.Wg) (Es Y.Wg) (AtA1 P L.tWg Y N val j Next) g s:=by
  rintro g s d h;refine⟨.leaf,(h s.w (.refl _)).1,λi f v I t=>?_⟩;have a:=A.next d f;obtain⟨g',l,m,q⟩:=(h i.w f.2).2 v I t;have k:yH L.tWg Y.Wg F {i with w:=i.w.setCell (stA Y.Wg) (.int .u64 ((v+1)*KK))}:=⟨A.rely _ _ a.1 (A.set a.1 _ rfl _),⟨_,_,t.setSt _⟩⟩;refine⟨g',l,A.goes (λg s d h=>?_) k q⟩
  rcases h s.w (.refl _)with h|h
  .obtain⟨l,g',ad,p,y,U⟩:=h;refine .step l λi f=>⟨g',i,_,y i.w,.inr ⟨rfl,ad,p,.inl rfl⟩,?_⟩
   have a:=A.next d f;obtain⟨m,q⟩:=U i.w a.2;exact A.goes (λg s d h=>z g s d (h s.w (.refl _))) a q
  grind
 have t:=Oc (P:=P) (L:=L) H (R:=fy L.tWg Y.Wg) (Wg:=Y.Wg) (λh r=>r h) (b₀:=b₀) (a₀:=a₀) (ops₀:=ops₀) (i₀:=i₀) (rest₀:=rest₀) (k₀:=k₀) (cs:=cs) s.w d.2;rw[Ei H];refine A.goes (λg s d h=>?_) d t;obtain⟨l,g',p,y⟩:=h s.w (.refl _);refine⟨.leaf,l,g',p,λi f=>?_⟩;have a:=A.next d f;obtain⟨m,q⟩:=y i.w a.2;exact A.goes b a q
section
variable (P L Y F)
def TW(B g:av)(s:St):Prop:=yH L.tWg Y.Wg F s/\∃m,Goes P ab (fy L.tWg Y.Wg) DC0 (λg _=>g=B) m g s.w
def Gd(c:aR)(cs:List aR)(g:av)(s:St):Prop:=yH L.tWg Y.Wg F s/\∃m,Goes P ab (fy L.tWg Y.Wg) DC0 (λg _=>R0 L Y.Wg c cs g) m g s.w
end
variable {b₀:aR}{a₀:Act}{ops₀:Array au}{i₀:Nat}{rest₀:List Nat}{k₀:List Item}{cs:List aR}
omit [Payload]in
def Vb(H:WgLib P L)(A:Apart Y.Wg F){T J:av->St->Prop}(K:∀g s,TW P L Y F (G (b₀.at (a₀.put ((ops₀[i₀]?).bind (·.dst)) (.tuple #[])) (.inRegion ops₀ rest₀::k₀)) cs) g s->T g s)(C:∀g s,Gd P L Y F (b₀.at a₀ (.inRegion ops₀ (i₀::rest₀)::k₀)) cs g s->J g s){g:av}{s:St}(h:Gd P L Y F (b₀.at a₀ (.inRegion ops₀ (i₀::rest₀)::k₀)) cs g s):
  er (Cx.lead P L.tWg Y.Wg) (Es Y.Wg) (AtW1 P L.tWg Y T J) g s:=by
 generalize hc:b₀.at a₀ (.inRegion ops₀ (i₀::rest₀)::k₀)=c at *;generalize V:G (b₀.at (a₀.put ((ops₀[i₀]?).bind (·.dst)) (.tuple #[])) (.inRegion ops₀ rest₀::k₀)) cs=B at K;have O:∀g s,yH L.tWg Y.Wg F s->yb (fy L.tWg Y.Wg) (Vd P (fy L.tWg Y.Wg) L Y.Wg B) g s.w->er (Cx.lead P L.tWg Y.Wg) (Es Y.Wg) (AtAcq P L.tWg Y T) g s:=by intro g s d h;obtain⟨l,g',p,y⟩:=h s.w (.refl _);exact⟨.leaf,l,g',p,λi f=>K _ _ ⟨A.next d f,y i.w (A.next d f).2⟩⟩
 have z:∀g s,yH L.tWg Y.Wg F s->yb (fy L.tWg Y.Wg) (YP P (fy L.tWg Y.Wg) L Y.Wg B) g s.w->er (Cx.lead P L.tWg Y.Wg) (Es Y.Wg) (AtKe P L.tWg Y T) g s:=by intro g s d h;obtain⟨l,g',p,y⟩:=h s.w (.refl _);refine⟨.leaf,l,g',p,λi f=>?_⟩;obtain⟨m,q⟩:=y i.w (A.next d f).2;exact A.goes O (A.next d f) q
 have gW4:∀g s,yH L.tWg Y.Wg F s->yb (fy L.tWg Y.Wg) (HW4 P (fy L.tWg Y.Wg) L Y.Wg B) g s.w->er (Cx.lead P L.tWg Y.Wg) (Es Y.Wg) (AtW4 P L.tWg Y T) g s:=by intro g s d h;refine⟨.leaf,(h s.w (.refl _)).1,λi f t=>?_⟩;obtain⟨g',l,m,q⟩:=(h i.w f.2).2 t;exact⟨g',l,A.goes z (A.next d f) q⟩
 have Q:∀g s,yH L.tWg Y.Wg F s->yb (fy L.tWg Y.Wg) (HW3 P (fy L.tWg Y.Wg) L Y.Wg B) g s.w->er (Cx.lead P L.tWg Y.Wg) (Es Y.Wg) (AtW3 P L.tWg Y T) g s:=by intro g s d h;refine⟨.leaf,(h s.w (.refl _)).1,(h s.w (.refl _)).2.1,λi f=>⟨(h i.w f.2).2.2.1,λt=>?_⟩⟩;obtain⟨g',l,m,q⟩:=(h i.w f.2).2.2.2 t;exact⟨g',l,A.goes gW4 (s:={i with w:=i.w.setCell (smA Y.Wg) (.int .u32 0)}) ⟨A.rely _ _ (A.next d f).1 (A.set (A.next d f).1 _ rfl _),⟨_,_,t.setSm 0⟩⟩ q⟩
 have Z:∀g s,yH L.tWg Y.Wg F s->yb (fy L.tWg Y.Wg) (HWr P (fy L.tWg Y.Wg) L Y.Wg B) g s.w->er (Cx.lead P L.tWg Y.Wg) (Es Y.Wg) (AtW3 P L.tWg Y T) g s:=by
  intro g s d h;obtain⟨l,g',ad,p,y,U⟩:=h s.w (.refl _);refine .step l λi f=>⟨g',i,_,y i.w,.inr ⟨rfl,ad,p,.inr rfl⟩,?_⟩
  obtain⟨m,q⟩:=U i.w (A.next d f).2;exact A.goes Q (A.next d f) q
 have W:∀(v:Nat) g s,yH L.tWg Y.Wg F s->yb (fy L.tWg Y.Wg) (HW2 P (fy L.tWg Y.Wg) L Y.Wg B (R0 L Y.Wg c cs) v) g s.w->er (Cx.lead P L.tWg Y.Wg) (Es Y.Wg) (AtW2 P L.tWg Y T J v) g s:=by
  intro vs g s d h;refine⟨.leaf,(h s.w (.refl _)).1,λi f v I t=>⟨λe=>?_,λe=>?_⟩⟩
  .obtain⟨g',l,m,q⟩:=((h i.w f.2).2 v I t).1 e;exact⟨g',l,A.goes Z (s:={i with w:=i.w.setCell (stA Y.Wg) (.int .u64 (v*KK+1))}) ⟨A.rely _ _ (A.next d f).1 (A.set (A.next d f).1 _ rfl _),⟨_,_,t.setSt _⟩⟩ q⟩
  .obtain⟨g',l,m,q⟩:=((h i.w f.2).2 v I t).2 e;exact⟨g',l,C _ _ ⟨A.next d f,m,q⟩⟩
 obtain⟨d,m,q⟩:=h;refine A.goes (λg s d h=>?_) d q;obtain⟨m,t⟩:=Ej (P:=P) (L:=L) H (R:=fy L.tWg Y.Wg) (Wg:=Y.Wg) (λh r=>r h) (b₀:=b₀) (a₀:=a₀) (ops₀:=ops₀) (i₀:=i₀) (rest₀:=rest₀) (k₀:=k₀) (cs:=cs) g (by rw[hc];exact h s.w (.refl _)) s.w d.2;rw[hc,V]at t;refine A.goes (λg s d h=>?_) d t;refine⟨.leaf,(h s.w (.refl _)).1,λi f v I t=>?_⟩;obtain⟨g',l,p,y⟩:=(h i.w f.2).2 v I t;refine⟨g',l,λh0=>?_,λE=>?_⟩
 .obtain⟨m,q⟩:=p h0;exact A.goes z (A.next d f) q
 .obtain⟨m,q⟩:=y E;exact A.goes (W v) (A.next d f) q
omit [Payload]in
def Ve(H:WgLib P L)(A:Apart Y.Wg F){c:aR}{J:av->St->Prop}(C:∀g s,Gd P L Y F c cs g s->J g s){s:St}(d:yH L.tWg Y.Wg F s):
  er (Cx.lead P L.tWg Y.Wg) (Es Y.Wg) (AtKd P L.tWg Y J) (G (Frame.enter P L.wait #[.pointer (aa ⟨Y.Wg,0,ae⟩)] .normal) (c::cs)) s:=by have t:=Ek (P:=P) (L:=L) H (R:=fy L.tWg Y.Wg) (Wg:=Y.Wg) (λh r=>r h) (c:=c) (cs:=cs) s.w d.2;rw[Cd H];refine A.goes (λg s d h=>?_) d t;obtain⟨l,g',p,y⟩:=h s.w (.refl _);exact⟨.leaf,l,g',p,λi f=>C _ _ ⟨A.next d f,y i.w (A.next d f).2⟩⟩
end
end
section
open Go.Conc Go.RowKit Go.Conc.Lib Go.ConcR.Gen
open Go.ConcN (WgLive Has RW DWs AtR0 EvW)
open Go.ConcN.Gen
open Go.ConcR (KK WgAt stA smA rd wr mk DC0 Payload)
section
variable {P:aq}{R:aA->aA->Prop}{D:aA->aA->Array Event->Prop}{Stop A:av->aA->Prop}
def Goes.never(b:∀w,R w w)(f:∀g w,Stop g w->∃g' e,aH P af g w=.go g' w #[e])(d:∀n g w,A g w->¬Goes P af R D Stop n g w):
  ∀(m n:Nat) (g:av) (w:aA),Goes P af R DC0 A m g w->¬Goes P af R D Stop n g w
 |0,n,g,w,h,k=>d n g w (h w (b w)) k
 |m+1,n,g,w,h,k=>by
  rcases h with h|⟨_,h⟩
  .grind
  .have h1:=h w (b w);cases a:aH P af g w with
   |go g' w' es =>
    rw[a,goes_go]at h1;obtain⟨⟨rfl,rfl⟩,h2⟩:=h1;have no:¬Stop g w':=λi=>by grind
    cases n with
    |zero=>exact no (k w' (b w'))
    |succ n =>
     rcases k with k|⟨_,k⟩
     .grind
     .have k1:=k w' (b w');rw[a,goes_go]at k1;exact Goes.never b f d m n g' w' h2 k1.2
   |_=>rw[a]at h1;exact h1.elim
def Goes.meet(b:∀w,R w w)(i:∀g w,Stop g w->∃g' e,aH P af g w=.go g' w #[e])(d:∀n g w,A g w->Goes P af R D Stop n g w->∀w1,R w w1->Stop g w1):
  ∀(m n:Nat) (g:av) (w:aA),Goes P af R DC0 A m g w->Goes P af R D Stop n g w->Goes P af R DC0 Stop m g w
 |0,n,g,w,h,k=>d n g w (h w (b w)) k
 |m+1,n,g,w,h,k=>by
  rcases h with h|⟨f,h⟩
  .exact .inl (d n g w (h w (b w)) k)
  .refine .inr ⟨f,λw1 hr=>?_⟩;have h1:=h w1 hr;cases a:aH P af g w1 with
   |go g' w' es =>
    rw[a,goes_go]at h1;rw[goes_go];obtain⟨⟨rfl,rfl⟩,h2⟩:=h1;have no:¬Stop g w':=λf=>by grind
    refine⟨⟨rfl,rfl⟩,?_⟩;cases n with
    |zero=>exact absurd (k w' hr) no
    |succ n =>
     rcases k with k|⟨_,k⟩
     .grind
     .have k1:=k w' hr;rw[a,goes_go]at k1;exact Goes.meet b i d m n g' w' h2 k1.2
   |_=>rw[a]at h1;exact h1.elim
end
variable [Payload]{L:WgLink}{P:aq}{Wg C n Low x:Nat}{val:ah}{c:aR}{cs:List aR}
def StK(P:aq)(g:av)(_:aA):Prop:=∃a,∀w,aH P af g w=.go a w #[mk .disable]
def StR(P:aq)(L:WgLink)(Wg C n Low x:Nat)(val:ah)(g:av)(w:aA):Prop :=
 (WgLive L.tWg Wg w/\Has C (x-1) val w)/\∃a,(∀w,aH P af g w=.go a w #[mk (.releaseMerge (stA Wg))])/\∀w,WgLive L.tWg Wg w/\Has C (x-1) val w->∃m,Goes P af (RW L.tWg Wg C n Low (x-1)) DC0 (StK P) m a w
set_option maxRecDepth 100000 in
def MT(H:WgLib P L)(w:aA)(a:WgLive L.tWg Wg w/\Has C (x-1) val w):
  Goes P af (RW L.tWg Wg C n Low (x-1)) DC0 (StR P L Wg C n Low x val) 23 (G ((baseD L.done).at ⟨#[.pointer (aa ⟨Wg,0,ae⟩),ai,ai,ai],[]⟩ [.code (body_done L)]) (c::cs)) w:=by
 lib_facts
 simp only[body_done,body_add,doneFn,addFn,im]
 u_reg kn_rely a
 u_op kn_rely a
 u_in kn_rely a
 refine goes_call rfl rfl (by k_ne) rfl H.f_add (nm_add L) rfl ⟨by u_nil,?_⟩
 walk_nrmf addFn
 repeat (u_c aD kn_rely a)
 u_cond ab kn_rely a
 repeat (u_c aD kn_rely a)
 u_reg kn_rely a
 u_op kn_rely a
 u_op kn_rely a
 u_c aC kn_rely a
 repeat (u_c aD kn_rely a)
 u_cond ab kn_rely a
 u_reg kn_rely a
 u_op kn_rely a
 u_conv H.underlying_tWgP H.room_tWg (Go.ConcN.Gen.WgLive.cell0 a.1).choose_spec kn_rely a
 refine Goes.stop (λd b=>?_);replace a:=kn_rely a b;clear b;refine⟨a,_,λw=>stepG_markAt .releaseMerge (by simp) rfl rfl (by k_ne) rfl H.f_relMerge (x_relMerge_n L) (x_relMerge_b L) (x_relMerge_x L) (x_relMerge_f L) (by simp[Act.eval,stA]),λw a=>⟨10,?_⟩⟩
 walk_nrm
 u_c aC kn_rely a
 repeat (u_c aD kn_rely a)
 u_reg kn_rely a
 exact Goes.stop λd b=>⟨_,λw=>stepG_mark0 .disable (by simp) rfl rfl (by k_ne) rfl H.f_disable (x_disable_n L) (x_disable_b L) (x_disable_x L) (x_disable_f L)⟩
def Vs(H:WgLib P L){y:Nat}(f:c.mode=.returning)(hT:QuitsD P y 0 (G c cs))(w:aA)(d:WgLive L.tWg Wg w/\Has C (x-1) val w):
  Goes P af (RW L.tWg Wg C n Low (x-1)) DC0 (AtR0 P L.tWg Wg C n Low x val) 23 (G ((baseD L.done).at ⟨#[.pointer (aa ⟨Wg,0,ae⟩),ai,ai,ai],[]⟩ [.code (body_done L)]) (c::cs)) w:=by
 have q:=doneN (Own:=λ_ _=>False) (Rd:=λ_ _=>False) (Low:=Low) (n:=n) H f hT w d;have l:∀g w,AtR0 P L.tWg Wg C n Low x val g w->∃g' e,aH P af g w=.go g' w #[e]:=λg w h=>by obtain⟨_,_,g',B,_⟩:=h;grind
 have t:(mk (.releaseMerge (stA Wg)):Event)≠mk .disable:=by simp[mk]
 refine Goes.meet (λw=>.refl w) l ?_ _ _ _ _ (MT H w d) q;intro o g w h k w1 hr;obtain⟨d,u,B,r⟩:=h;have a:AtR0 P L.tWg Wg C n Low x val g w1∨∃j,Goes P af (RW L.tWg Wg C n Low (x-1)) (DWs Wg (λ_ _=>False) (λ_ _=>False) C n x) (AtR0 P L.tWg Wg C n Low x val) j u w1:=by
  cases o with
  |zero=>exact .inl (k w1 hr)
  |succ o =>
   rcases k with k|⟨_,k⟩
   .grind
   grind[goes_go]
 rcases a with h|⟨j,h⟩
 .exact h
 .exfalso;obtain⟨m,z⟩:=r w1 (kn_rely d hr);refine Goes.never (λw=>.refl w) l ?_ _ _ _ _ z h;rintro i v w4 ⟨I,p⟩ k;have b:∀w,¬AtR0 P L.tWg Wg C n Low x val v w:=λw s=>by obtain⟨_,_,E,F,_⟩:=s;grind
  cases i with
  |zero=>exact b w4 (k w4 (.refl w4))
  |succ i =>
   rcases k with k|⟨_,k⟩
   .exact b w4 (k w4 (.refl w4))
   .have k1:=k w4 (.refl w4);rw[p w4,goes_go]at k1;have:=(k1.1.2 _ (Array.mem_singleton.2 rfl)).2.1;exact this rfl
end
section
open Go.RowKit
open Go.Conc (G solo crowd AtRel Past EvL Leavers)
def St.top(w:aA):St:={β:=[],M:=λb o=>w.cell? ⟨b,o,ae⟩,w:=w,own:=λb=>b<w.heap.size}
def aF.top(w:aA):aF [] (St.top w):=⟨λ_ _ _ h=>h,rfl,by simp,by simp[St.top],by simp[St.top],λb a=>⟨a,by simp[St.top]⟩⟩
def RX{P:aq}{f:aJ}{a:aR}{v:ah}{s:St}(h:uI P f a v s)(hi:P.inits.idxOf? f=ae)(w:aA)(g:∀b o u,s.M b o=aa u->w.cell? ⟨b,o,ae⟩=aa u):∃es,aH P ab (G a []) w=.ended (.done v) w es/\∀e∈es,∃b o u,e=⟨.cell ⟨b,o,ae⟩,af,af⟩/\s.M b o=aa u:=by
 obtain⟨fn,k,c⟩:=h.fn;obtain⟨l,j⟩:=c w g;refine⟨seen P a.fn ((results fn a.tmps).events P w #[]),?_,λe i=>j e (Go.Conc.mem_seen i)⟩;have d:P.inits.idxOf? a.fn=ae:=by rw[h.isF];exact hi
 simp[G,aH,unwind,doReturn,h.mode,h.defers,h.kind,k,l,d,GStep.after]
abbrev Gl:=Nat×aj×ah
abbrev Ob(gs:List Gl):List aP:=gs.map λx=>.b8 (dJ x.1 x.2.1 x.2.2)
def St.uN(gs:List Gl)(w:aA):St:={β:=gs.map λx=>⟨.pointer (aa ⟨x.1,0,ae⟩),[x.1]⟩,M:=λb o=>if b∈gs.map (·.1)then ae else w.cell? ⟨b,o,ae⟩,w:=w,own:=λb=>b<w.heap.size/\b∉gs.map (·.1)}
def aF.uN{gs:List Gl}{w:aA}(p:(gs.map (·.1)).Nodup)(m:∀x∈gs,w.heap[x.1]?=aa (.cells #[x.2.2] x.2.1 (0,0))):aF (Ob gs) (St.uN gs w):=by
 have k:∀x∈gs,x.1<w.heap.size:=λx g=>(ij.1 (m x g)).1;have c:∀(l:Nat) (L:Loc),(St.uN gs w).β[l]?=aa L->∃x,gs[l]?=aa x/\L=⟨.pointer (aa ⟨x.1,0,ae⟩),[x.1]⟩:=λl L h=>by simp only[St.uN,mU,qL]at h;grind
 refine⟨λb o v i=>?_,by simp[St.uN],λl B L hB hl=>?_,λl l' L L' h1 h2 b a d=>?_,λL h b a=>?_,λb a=>⟨a.1,λL h f=>?_⟩⟩
 .simp only[St.uN]at i;split at i
  .cases i
  .exact i
 .obtain⟨x,h1,rfl⟩:=c l L hl;simp only[Ob,mU,h1,nZ,dm]at hB;subst hB;have g:=bH h1;refine⟨λb=>if b=x.1 then aa (.cells #[x.2.2] x.2.1 (0,0))else ae,⟨rfl,bm rfl,λb a=>aZ a⟩,λb o a=>?_,λb=>?_,λb a o=>?_⟩
  .simp only at a;split at a
   .rename_i e;cases a;rw[e];exact m x g
   grind
  .by_cases e:b=x.1<;>simp[e]
  .rw[fW]at a;subst a;exact bm (kB.2 ⟨x,g,rfl⟩)
 .obtain⟨x,j,rfl⟩:=c l L h1;obtain⟨y,n,rfl⟩:=c l' L' h2;rw[fW]at a d;have e:x.1=y.1:=a.symm.trans d;have a1:(gs.map (·.1))[l]?=aa x.1:=by grind
  have a2:(gs.map (·.1))[l']?=aa x.1:=by grind
  grind[List.getElem?_inj]
 .obtain⟨l,hl⟩:=zp h;obtain⟨x,j,rfl⟩:=c l L hl;rw[fW]at a;subst a;exact k x (bH j)
 .obtain⟨l,hl⟩:=zp h;obtain⟨x,j,rfl⟩:=c l L hl;rw[fW]at f;subst f;exact a.2 (kB.2 ⟨x,bH j,rfl⟩)
def aF.YL{gs:List Gl}{s:St}(h:aF (Ob gs) s){x:Gl}(b:x∈gs):s.w.heap[x.1]?=aa (.cells #[x.2.2] x.2.1 (0,0)):=by
 obtain⟨l,hl⟩:=zp b;have hB:(Ob gs)[l]?=aa (.b8 (dJ x.1 x.2.1 x.2.2)):=by grind
 have a:l<s.β.length:=by rw[h.len];grind
 obtain⟨ch,⟨_,h2,_⟩,c,_⟩:=h.box l _ _ hB (br a);grind
def eb.Va{P:aq}{ι:Type}{f:aJ}{args:List D}{res:ι->D}{gs:List Gl}(h:eb (Cx.beside P) f args (Ob gs) res (λ_=>Ob gs))(hi:P.inits.idxOf? f=ae){w:aA}(O:(gs.map (·.1)).Nodup)(t:∀x∈gs,w.heap[x.1]?=aa (.cells #[x.2.2] x.2.1 (0,0))){vs:List ah}(I:cg (Ob gs) (St.uN gs w) vs args){Post:ah->aA->Prop}(R:∀i v s',dj (Ob gs) s' v (res i)->Below w.heap.size w s'.w->∀d,Post v (s'.w.at d)):
  ∃M last o w' t',runNT P (M+1) (solo (G (Frame.enter P f vs.toArray .normal) []) w) #[]=(.ended o w',t')/\runN P M (solo (G (Frame.enter P f vs.toArray .normal) []) w)=.next last /\
   step P last=.ended o w'/\Go.Conc.Good P Post last o w' t':=by
 have c:=aF.uN O t;have key:=h.2 (St.uN gs w) vs I c (λg s'=>∃i v fr,g=G fr []/\uI P f fr v s'/\dj (Ob gs) s' v (res i)/\Below w.heap.size w s'.w) []
  (λi fr v s' h1 h2 h3 h4=>.stop ⟨i,v,fr,rfl,h1,h2,⟨h4.os,h4.tape,h4.output,h4.size,λk hk=>by
   by_cases e:k∈gs.map (·.1)
   .obtain⟨x,y,rfl⟩:=kB.1 e;rw[h3.YL y,t x y]
   .exact h4.fe k ⟨hk,e⟩⟩⟩)
 have Q:AM.lW (λ_=>False)=λ_=>False:=by funext l;cases l<;>rfl
 obtain⟨N,s,q,g',s',j,t',U,h1,h2,h3,h4,z,F,V,⟨i,v,fr,rfl,k1,L,H⟩⟩:=key.beside (λ_=>False) #[G (Frame.enter P f vs.toArray .normal) []] ae #[] (λ_=>0) c.mem rfl (Go.Conc.leavers_one P _)
  (by rw[Q];exact Go.Conc.past_nil.mono (lk _)) ⟨λ_ h=>h.elim,λ_ h=>h.elim,λ_ h=>h.elim,λ_ h=>h.elim⟩ (λa=>by intro i hi;simp[Trace.act?]at hi)
 have m:=Go.Conc.beside_ends (P:=P) (Shun:=AM.lW s) (B:=s'.w.heap.size) (D:=λ_ _ _=>False) (Post:=Post) (λ_ _ _ h=>h.elim) (sl:=j) (n:=0) h3 h4 z (Go.Conc.Goes.stop λw1 Q0=>by
  obtain⟨d,rfl⟩:=Q0;obtain⟨es,e1,e2⟩:=RX k1 hi (s'.w.at d) (λb o u r=>h2 b o u r);refine⟨rfl,v,es,e1,λe K=>?_,R i v s' L H d⟩;obtain⟨b,o,u,rfl,r⟩:=e2 e K;refine Go.Conc.evL_cell _ _ (λC=>?_) (gL.lt h2 r);have:=F.M b C o
  grind)
 obtain⟨p,last,o,w',J,S,W,E,A⟩:=m;refine⟨N+p,last,o,w',J,?_,?_,E,A⟩
 .rw[show N+p+1=N+(p+1) by omega];exact(runNT_add N (p+1) h1).trans S
 .have e:=runNT_fst P N (crowd #[G (Frame.enter P f vs.toArray .normal) []] w ae) #[];have T:(runNT P N (crowd #[G (Frame.enter P f vs.toArray .normal) []] w ae) #[]).1=.next (crowd q s'.w j):=by have:runNT P N (crowd #[G (Frame.enter P f vs.toArray .normal) []] w ae) #[]=_:=h1;grind
  grind[Go.Conc.solo_eq_crowd,runN_add]
def Rd.uN{gs:List Gl}{w:aA}(r:∀x∈gs,w.heap[x.1]?=aa (.cells #[x.2.2] x.2.1 (0,0)))(hi:∀x∈gs,∃T u,x.2.2=.iface T u){v:ah}{t:Bool}{k n:Nat}{es:Nat->List C}(g:∀(i j:Nat)(c:C),(es i)[j]?=aa c->∃kd m,c=C.int kd m)(h:Rd (St.top w).M v (.sl t k n es)):Rd (St.uN gs w).M v (.sl af k n es):=by
 obtain⟨a,cap,b,off,rfl,h1,h2,s,p,o⟩:=h.Ef;refine .RN h1 h2 s p λi f j c hj=>?_;obtain⟨u,d,q2⟩:=o i f j c hj;obtain⟨kd,m,rfl⟩:=g i j c hj;cases q2 with
 |int hr =>
  refine⟨_,?_,.int hr⟩;have d:w.cell? ⟨b,off+i*k+j,ae⟩=aa (.int kd m):=d;show(if b∈gs.map (·.1)then ae else w.cell? _)=_;rw[aZ,d];intro q;obtain⟨x,l,rfl⟩:=kB.1 q;obtain⟨T,u,e⟩:=hi x l;simp only[aV,r x l,e]at d;grind
end
section
open Go.ChangeShapes Go.WideShapes Go.ChangeAt Go.RowKit
def AJ{H:Type}{enc:aj×ah->H}{a:Assume}{C:Checked}{os:Os}{f:aJ}{fn:Func}{s:ChangeSpec}{d:List PathCond}{apart fresh handsOn again:Bool}{X:aA->Array ah->Prop}(J:∀(w w':aA) (args:Array ah),w.heap=w'.heap->X w args->X w' args)(own:ownKnob C.prog.godebug=ae)(h:os.Started)(q:C.prog.funcs[f]?=aa fn)(g:∃(w:aA) (b:Tape) (i:Input),w.os=os/\(w.forCall b i).Shaped C.prog/\i.vars=[]/\Input.okWide C.prog (w.forCall b i) .any w.heap.size f i /\
   ((s.pre enc C.prog fn d apart (w.forCall b i).memory i.args/\X (w.forCall b i).memory i.args)/\sizedMet enc C.prog fn (OpenSpec.ofChange s) apart (w.forCall b i).memory i.args)/\a.holds C.prog (lone (Frame.enter C.prog f i.args .normal) [] (w.forCall b i)))(k:∀(W:aA) (base:Nat) (args:Array ah) (ds gs:List (DataW H)) (c:List MemPlace),
   (∀(j:Nat) t v,fn.params[j]?=aa t->args[j]?=aa v->Value.okWide C.prog W .any base t v) ->
   DataW.Whole enc C.prog fn.params.toList s.vars apart W args.toList ds gs c->W.ShapedOpen C.prog->X W args ->
   ∃M last o w' t',runNT C.prog (M+1) (Conc.solo (Conc.G (Frame.enter C.prog f args .normal) []) W) #[]=(.ended o w',t')/\runN C.prog M (Conc.solo (Conc.G (Frame.enter C.prog f args .normal) []) W)=.next last /\
    step C.prog last=.ended o w'/\Conc.Good C.prog (λv D=>s.post enc C.prog fn apart fresh handsOn again W args v D) last o w' t'):
  ReturnsInLeavingWide a C os f .any (λw args=>(s.pre enc C.prog fn d apart w args/\X w args)/\sizedMet enc C.prog fn (OpenSpec.ofChange s) apart w args) (s.post enc C.prog fn apart fresh handsOn again):=by refine returnsInLeavingWide_of_good own h g ?_;intro w b i _ u _ r n p;obtain⟨_,_,_,x,m,_,_,_,_,l⟩:=r;have e:x=fn:=rK (m.symm.trans q);subst e;obtain⟨⟨⟨ds,gs,c,z,L⟩,B⟩,N⟩:=n;have y:=DataW.Whole.of_heap (w':=w.forCall b i) (by rfl) z;obtain⟨M,last,o,w',t',K,A,I,F⟩:=k (w.forCall b i) w.heap.size i.args ds gs c l y u (J (w.forCall b i).memory (w.forCall b i) i.args rfl B);exact⟨M,last,o,w',t',K,A,I,F.mono λv E=>ChangeSpec.post_blind E⟩
def H0(l:Looks){p:Pinned}{s:OpenSpec}{c:OpenClaim}(n:List (List PathCond))(kinds:List LaidKind)(a:Bool)(b:Bool×String)(d:Bool)(x:c.holds p s)(m:∀D∈n,(c.withDomain D).holds p s)(w:c.wfByText s=ab)(k:∀D∈n,(c.withDomain D).wfByText s=ab)(i:c.laidByTextAt l p kinds a)(e:c.start=.entering)(g:c.noBlocks=af/\c.again=af)(u:p.checked.prog.mainIs=aa (b.1,b.2.toList))(z:(!b.1&&b.2.isEmpty&&!d)=af)(v:∀f fn,p.checked.prog.funcNamed c.func=aa f->p.checked.prog.funcs[f]?=aa fn->d=p.checked.prog.looks []/\∀(j:Nat) t,fn.params[j]?=aa t->p.checked.prog.wantsStandIn t=af)(y:ab=c.goesBy p.checked.prog):
  Claim7.holds p (.plain s) {stood:={row:=c,standIns:=[],harness:=b,looks:=d},kinds:=[],alts:=n,goes:=ab,laidByText:=ab,laidKinds:=kinds,laidTests:=a,laidLooks:=l}:=by
 have o:∀r:OpenClaim,Claim7.isSixth {stood:={row:=r,standIns:=[],harness:=b,looks:=d},kinds:=[]}=af:=λr=>by simpa[Claim7.isSixth]using z
 refine⟨Claim7.tied_new_at l kinds a (Claim7.new_of_sixth x b d e g u (o c) v) w,λD q=>?_,i,(λh=>by cases h),y⟩;exact Claim7.tied_new_at l kinds a (Claim7.new_of_sixth (m D q) b d e g u (o _) v) (k D q)
end
end Go.AM
namespace Go.AM.R1
section
variable {X:Cx ag}
def Zp:dr:=λargs σ=>match args,σ with
 |[.e (.one (.c (.str b)))],[]=>aa (dB (dD b),[],[])
 |_,_=>ae
def t50:ee X 50 Zp:=by intro args σ res σ' obs h _;unfold Zp at h;grind[Ip]
def Xr:dr:=λargs σ=>match args,σ with
 |[.e (.one (.c (.str b)))],[]=>aa (dB (ef b),[],[])
 |_,_=>ae
def t51:ee X 51 Xr:=by intro args σ res σ' obs h _;unfold Xr at h;grind[Iq]
def Zq:dr:=λargs σ=>match args,σ with
 |[.e (.one (.c (.str a))),.e (.one (.c (.str b)))],[]=>aa (dB (clash a b),[],[a≠[],b≠[]])
 |_,_=>ae
def t52:ee X 52 Zq:=by
 intro args σ res σ' obs h a;unfold Zq at h;split at h
 .cases h;exact LJ _ _ a.1 a.2
 grind
def ct2:List (Nat×dr):=(50,Zp)::(51,Xr)::(52,Zq)::ct1
def tT:bE X ct2:=bE.cons t50 (bE.cons t51 (bE.cons t52 CY))
def fh(t:List bz)(i:Nat):Bs:=(t.getD i ([],[])).1
def sY(t:List bz)(i:Nat):Bs:=(t.getD i ([],[])).2
def gI(t:List bz)(i:Nat):(t.getD i cF.bZ).1=fh t i:=rfl
def pF(t:List bz)(i:Nat):(t.getD i cF.bZ).2=sY t i:=rfl
def gH(t:List bz)(i:Nat):Bool:=dD (fh t i)&&ef (sY t i)&&(i==0||bk (fh t (i-1)) (fh t i))&&(bg i).all λj=>!clash (fh t j) (fh t i)
def cx(t:List bz):Bool:=(bg t.length).all (gH t)&&decide (t.length<=6)
def dy{n:Nat}{p:Nat->Bool}:(bg n).all p=ab↔∀i,i<n->p i=ab:=by grind
def qt{s:Bs}(h:dD s=ab):s≠[]:=by rintro rfl;simp[dD]at h
def lM{t:List bz}{i:Nat}(hi:i<t.length)(h:gH t i=af):cx t=af:=by
 cases a:cx t with
 |false=>rfl
 |true =>
  simp only[cx,bR]at a;grind
def yS(t:List bz):Ev X 21 [cF.sl t] [] (dB (cx t)) []:=by
 refine Ev.bQ Tryz.func21 rfl λs=>?_;have r:=s.sl 0 rfl;refine cf tT rfl ay ?_;refine AK.wI (λi=>i<=t.length/\∀j,j<i->gH t j=ab) (λi:Nat=>[(0,cF.sl t),(3,dI i)]) (λ_=>[]) (λi=>t.length-i) 0 rfl (by simp[cv]) ⟨by omega,by omega⟩ rfl ?_;rintro i ⟨hi,l⟩;by_cases h:i<t.length
 .by_cases b:dD (fh t i)=ab
  .by_cases f:ef (sY t i)=ab
   .by_cases m:i=0∨bk (fh t (i-1)) (fh t i)=ab
    .apply AK.join [(0,cF.sl t),(3,dI i),(4,dI 0)] []
     .intro hk;by_cases c:i=0
      .refine aW tT [(8,ab),(16,ab),(24,ab),(29,af)] rfl ?_ (hk _ _ rfl ?_)
       .simp[-ar,h,gI,pF,b,f];omega
       .simp[cv]
      .have g:=m.resolve_left c;have d:bA .i64 ((i:Int)-1):=by simp only[bA];omega
       have n:((i:Int)-1).toNat=i-1:=by omega
       refine aW tT [(8,ab),(16,ab),(24,ab),(29,ab),(42,af)] rfl ?_ (hk _ _ rfl ?_)
       .simp[-ar,h,gI,pF,b,f,g,d,n];omega
       .simp[cv]
     ·
      have p:gH t i=(bg i).all (λj=>!clash (fh t j) (fh t i)):=by
       rcases m with rfl|g
       .simp[gH,b,f]
       .simp[gH,b,f,g]
      refine AK.wI (λj=>j<=i/\∀o,o<j->clash (fh t o) (fh t i)=af) (λj:Nat=>[(0,cF.sl t),(3,dI i),(4,dI j)]) (λ_=>[]) (λj=>i-j) 0 rfl (by simp[cv]) ⟨by omega,by omega⟩ rfl ?_;rintro j ⟨v,u⟩;by_cases a:j<i
      .have k:dD (fh t j)=ab:=by have:=l j a;simp only[gH,bR]at this;exact this.1.1.1
       cases q:clash (fh t j) (fh t i)with
       |true =>
        refine aW tT [(47,ab),(60,ab)] rfl ?_ (AK.iC (AK.sj (cp.zero rfl ?_)))
        .simp[-ar,h,a,gI,q,qt b,qt k];omega
        .have:gH t i=af:=by grind
         simp[lM h this]
       |false =>
        refine aW tT [(47,ab),(60,af)] rfl ?_ (AK.again (j+1) rfl ?_ ?_ ?_ rfl)
        .simp[-ar,h,a,gI,q,qt b,qt k,bA];omega
        .simp[cv]
        .grind
        .omega
      .have a:j=i:=by omega
       subst a;refine aW tT [(47,af)] rfl (by simp) (AK.leave rfl rfl ?_);refine cf tT rfl ?_ (AK.again (j+1) rfl ?_ ?_ ?_ rfl)
       .simp[bA];omega
       .simp[cv]
       .grind
       .omega
    .have c:i≠0:=λe=>m (.inl e);have g:bk (fh t (i-1)) (fh t i)=af:=by grind
     have d:bA .i64 ((i:Int)-1):=by simp only[bA];omega
     have n:((i:Int)-1).toNat=i-1:=by omega
     refine aW tT [(8,ab),(16,ab),(24,ab),(29,ab),(42,ab)] rfl ?_ (AK.iC (cp.zero rfl ?_))
     .simp[-ar,h,gI,pF,b,f,g,d,n];omega
     .simp[az,lM h (by simp[gH,c,g])]
   .refine aW tT [(8,ab),(16,ab),(24,af)] rfl ?_ (AK.iC (cp.zero rfl ?_))
    .simp[-ar,h,gI,pF,b,f]
    .simp[az,lM h (by simp[gH,f])]
  .refine aW tT [(8,ab),(16,af)] rfl ?_ (AK.iC (cp.zero rfl ?_))
   .simp[-ar,h,gI,b]
   .simp[az,lM h (by simp[gH,b])]
 .refine aW tT [(8,af)] rfl (by simp;omega) (AK.leave rfl rfl ?_);refine cf tT rfl ay (AK.bw rfl ?_);simp only[az,cx];grind
end
def dl(s:Bs)(i:Nat):Int:=(cK s i-97) % 256
def jv(t:Bs)(e:Nat):Bool:=(dl t (e-1)+2*dl t (e-2)+3*dl t (e-3)) % 5==0
def tG(t:Bs)(f:Nat):Nat->Nat
 |0=>min (f+8) t.length
 |k+1=>if t.length<=f+(7-k)then t.length else if jv t (f+(7-k))then f+(7-k)else tG t f k
def cutAt(t:Bs)(f:Nat):Nat:=tG t f 5
def GJ(t:Bs)(f:Nat)(a:f<t.length):∀k,k<=5->f<tG t f k/\tG t f k<=t.length/\tG t f k<=f+8
 |0,_=>by simp only[tG];omega
 |k+1,hk=>by
  simp only[tG];split
  .omega
  .split
   .omega
   .exact GJ t f a k (by omega)
theorem nC(t:Bs)(f:Nat)(a:f<t.length):f<cutAt t f/\cutAt t f<=t.length/\cutAt t f<=f+8:=GJ t f a 5 (by omega)
def mL(t:Bs):Nat->Nat->List Nat
 |0,_=>[]
 |k+1,f=>if f<t.length then cutAt t f::mL t k (cutAt t f)else[]
def AF(t:Bs):List Nat:=mL t t.length 0
def fp(t:Bs):Nat->Nat->List Bs
 |0,_=>[]
 |k+1,f=>if f<t.length then(t.drop f).take (cutAt t f-f)::fp t k (cutAt t f)else[]
def pieces(t:Bs):List Bs:=fp t t.length 0
def gu(l:List Bs):Option Bs:=if ef l.flatten&&(pieces l.flatten==l)then aa l.flatten else ae
def bx(p:Bs):Bool:=decide (1<=p.length)&&decide (p.length<=8)&&b6 p
def codeOf(p:Bs):Int:=p.foldl (λn b=>27*n+((b.toNat:Int)-97) % 256+1) 0
def cd(k:Int):Bool:=decide (1<=k)&&decide (k<=99)
def en(k:Int)(p:Bs):Int:=(codeOf p*(2*k+1)+k*7919) % 999999999989
def cG(n:Nat):Nat:=if n<1∨8<n then 0 else if n<=2 then 2 else if n<=4 then 4 else 8
def eO(p:Bs):Bs:=if bx p then p++List.replicate (cG p.length-p.length) 46 else[]
def strip(b:Bs):Bs:=(b.reverse.dropWhile (·==46)).reverse
def eQ(b:Bs):Option Bs:=if bx (strip b)&&(eO (strip b)==b)then aa (strip b)else ae
abbrev bo:=Int×Bs
abbrev bG:=Int×List bo
def right(k:Int)(x:bo):Bool:=match eQ x.2 with|some p=>en k p==x.1|none=>af
def Av(l:List Int):Bool:=(bg l.length).all λi=>i==0||decide (l.getD (i-1) 0<l.getD i 0)
def gg(k:Int)(p:bG):Bool :=
 decide (1<=p.1)&&decide (p.1<=99)&&cd k&&decide (1<=p.2.length)&&decide (p.2.length<=4)&&p.2.all (right k)&&Av (p.2.map (·.1))
def chunk(k:Int)(x:bo):Option Bs:=match eQ x.2 with|some p=>if cd k&&(en k p==x.1)then aa p else ae|none=>ae
def ei(k:Int)(p:bG)(n:Int):Option Bs:=match p.2.find? (λx=>x.1==n)with|some x=>chunk k x|none=>ae
def gG(l:List bo)(x:bo):List bo:=match l with
 |[]=>[x]
 |y::r=>if x.1<y.1 then x::y::r else y::gG r x
def g6(no k:Int)(ps:List Bs):bG:=(no,ps.foldl (λl p=>gG l (en k p,eO p)) [])
abbrev cn:=Int×Int
def eF(s:cn):Bool:=decide (0<=s.1)&&decide (s.1<999999999989)&&decide (1<=s.2)&&decide (s.2<=99)
def gp(l:List cn)(s:cn):List cn:=match l with
 |[]=>[s]
 |y::r=>if y.1<s.1 then y::gp r s else s::(y::r).filter (λz=>!(z.1==s.1))
def mI(l:List cn)(n:Int):Int:=match l.find? (λs=>s.1==n)with|some s=>s.2|none=>0
def cW(l:List bG):List cn:=l.flatMap λp=>p.2.map λx=>(x.1,p.1)
def indexOf(l:List bG):List cn:=if(cW l).all eF then(cW l).foldl gp []else[]
abbrev jT:=Bs×List Int
abbrev gE:=Int×List jT
def oH(k:Int)(f:bz):jT:=(f.1,(pieces f.2).map (en k))
def ft(no k:Int)(t:List bz):gE:=(no,t.map (oH k))
def iE(k:Int)(l:List cn)(out:List Bs)(p:Bs):List Bs:=if mI l (en k p)==0&&!out.contains p then out++[p]else out
def dz(k:Int)(t:List bz)(l:List cn):List Bs:=(t.flatMap λf=>pieces f.2).foldl (iE k l) []
def dK(k:Int)(ps:List bG)(n:Int):Option Bs:=ps.findSome? λp=>ei k p n
def gN{p:Bs}(h:b6 p=ab):∀b∈p,97<=b.toNat/\b.toNat<=122:=by intro b a;have:=List.all_eq_true.1 h b a;simpa[eP]using this
def w7:∀(p:Bs) (n m:Int)(k:Nat),(∀b∈p,97<=b.toNat/\b.toNat<=122)->0<=n->n<m->1<=m ->
  0<=p.foldl (λn b=>27*n+((b.toNat:Int)-97) % 256+1) n/\p.foldl (λn b=>27*n+((b.toNat:Int)-97) % 256+1) n<m*27 ^ p.length
 |[],n,m,_,_,d,c,_=>by grind
 |b::p,n,m,k,a,d,c,f=>by obtain⟨g,q2⟩:=a b (by simp);have:=w7 p (27*n+((b.toNat:Int)-97) % 256+1) (m*27) k (λx e=>a x (by grind)) (by omega) (by omega) (by omega);grind[Int.mul_assoc]
def Qh:∀{n:Nat},n<=8->(27:Int) ^ n<=282429536481:=by
 intro n a
 match n,a with
 |0,_|1,_|2,_|3,_|4,_|5,_|6,_|7,_|8,_=>decide
def qm{p:Bs}(h:bx p=ab):0<=codeOf p/\codeOf p<282429536481:=by simp only[bx,bR,ba]at h;obtain⟨a,q2⟩:=w7 p 0 1 0 (gN h.2) (by omega) (by omega) (by omega);have:=Qh h.1.2;rw[Int.one_mul]at q2;exact⟨a,Int.lt_of_lt_of_le q2 this⟩
def cop:∀d:Fin 200,d.val≠0->Nat.gcd 999999999989 d.val=1:=by decide +kernel
def S4{a:Nat}{P c d:Int}(g:P=(a:Int))(h:P ∣ c*d)(e:0<c)(k:c<P)(f:Nat.gcd a d.natAbs=1):False:=by
 subst g;have i:a ∣ c.natAbs*d.natAbs:=by have:=Int.natAbs_dvd_natAbs.2 h;grind[Int.natAbs_mul,Int.natAbs_natCast]
 have b:a ∣ c.natAbs:=Nat.Coprime.dvd_of_dvd_mul_right f i;have j:=Nat.le_of_dvd (by omega) b;omega
def OX{a b P:Int}(h:a % P=b % P):P ∣ a-b:=Int.dvd_of_emod_eq_zero (by rw[Int.sub_emod,h,Int.sub_self,Int.zero_emod])
def sL(l:Bs):Int:=l.foldr (λb n=>27*n+((b.toNat:Int)-97) % 256+1) 0
def CQ:∀p:Bs,0<=sL p
 |[]=>by simp[sL]
 |b::p=>by have:=CQ p;simp only[sL,List.foldr_cons]at *;omega
def y6:∀{p q:Bs},(∀b∈p,97<=b.toNat/\b.toNat<=122)->(∀b∈q,97<=b.toNat/\b.toNat<=122)->sL p=sL q->p=q
 |[],[],_,_,_=>rfl
 |[],c::q,_,a,h|c::q,[],a,_,h=>by have:=CQ q;simp only[sL,List.foldr_cons,List.foldr_nil]at *;omega
 |b::p,c::q,d,a,h=>by have g:=d b (by simp);have i:=a c (by simp);have f:=y6 (p:=p) (q:=q) (λx e=>d x (by grind)) (λx e=>a x (by grind));simp only[sL,List.foldr_cons]at h f;grind[UInt8.toNat_inj]
def EY{p q:Bs}(c:bx p=ab)(b:bx q=ab)(h:codeOf p=codeOf q):p=q:=by
 have e:∀p,codeOf p=sL p.reverse:=λp=>by simp[codeOf,sL,List.foldr_reverse]
 simp only[bx,bR]at c b;rw[e,e]at h;exact List.reverse_inj.1 (y6 (λx a=>gN c.2 x (List.mem_reverse.1 a)) (λx a=>gN b.2 x (List.mem_reverse.1 a)) h)
def Il{k:Int}(hk:cd k=ab){p q:Bs}(d:bx p=ab)(c:bx q=ab)(h:en k p=en k q):p=q:=by
 refine EY d c ?_;simp only[cd,bR,ba]at hk;obtain⟨f,c1⟩:=qm d;obtain⟨e,d1⟩:=qm c;have key:∀x y:Int,0<=x->0<=y->x<282429536481->x>y->(x*(2*k+1)+k*7919) % 999999999989=(y*(2*k+1)+k*7919) % 999999999989->False:=by
  intro x y l m j i h;have b:=OX h;rw[show(x*(2*k+1)+k*7919)-(y*(2*k+1)+k*7919)=(x-y)*(2*k+1) by grind]at b;have g:(2*k+1).natAbs<200:=by omega
  exact S4 (a:=999999999989) rfl b (by omega) (by omega) (cop ⟨_,g⟩ (by grind))
 rcases Int.lt_trichotomy (codeOf p) (codeOf q)with b|b|b
 .exact(key _ _ e f d1 b h.symm).elim
 .exact b
 .exact(key _ _ f e c1 b h).elim
theorem Im{p:Bs}(h:b6 p=ab)(n:Nat):strip (p++List.replicate n 46)=p:=by
 have e:∀n,List.dropWhile (·==46) ((List.replicate n (46:UInt8))++p.reverse)=p.reverse:=by
  intro n;induction n with
  |zero =>
   simp only[List.replicate_zero,mm];cases f:p.reverse with
   |nil=>rfl
   |cons b r =>
    have c:b∈p:=List.mem_reverse.1 (by grind);have:=gN h b c;have a:(b==46)=af:=by simp only[eD];rintro rfl;grind
    simp[a]
  |succ n d=>simpa[List.replicate_succ]using d
 unfold strip;grind
def CR{p:Bs}(h:bx p=ab):eQ (eO p)=aa p:=by
 have a:b6 p=ab:=by simp only[bx,bR]at h;exact h.2
 have e:eO p=p++List.replicate (cG p.length-p.length) 46:=by simp[eO,h]
 have s:strip (eO p)=p:=by grind[Im]
 simp[eQ,s,h]
def ml(l:List bo)(i j:Nat):List bo:=(l.set i (l.getD j (0,[]))).set j (l.getD i (0,[]))
def nF(l:List bo)(i j:Nat):Bool:=decide ((l.getD i (0,[])).1<(l.getD j (0,[])).1)
def xX:Nat->List bo->Nat->List bo
  | 0,l,_=>l
  | f+1,l,j=>if(j-1) / 2=j then l else if nF l j ((j-1) / 2)=ab then xX f (ml l ((j-1) / 2) j) ((j-1) / 2)else l
def nG(l:List bo)(i n:Nat):Nat:=if 2*i+2<n/\nF l (2*i+2) (2*i+1)=ab then 2*i+2 else 2*i+1
def gF:Nat->List bo->Nat->Nat->List bo
  | 0,l,_,_=>l
  | f+1,l,i,n=>if n<=2*i+1 then l else if nF l (nG l i n) i=ab then gF f (ml l i (nG l i n)) (nG l i n) n else l
def gO(l:List bo)(x:bo):List bo:=xX (l.length+1) (l++[x]) l.length
def kr(l:List bo):List bo:=gF l.length (ml l 0 (l.length-1)) 0 (l.length-1)
def lE:Nat->List bo->List bo
  | 0,_=>[]
  | f+1,l=>if l.length=0 then[]else(kr l).getD (l.length-1) (0,[])::lE f ((kr l).take (l.length-1))
def mJ(l:List bo):List bo:=lE l.length (l.foldl gO [])
theorem fS(l:List bo)(i j:Nat):(ml l i j).length=l.length:=by simp[ml]
def Gs:∀f l j,(xX f l j).length=l.length
  | 0,_,_=>rfl
  | f+1,l,j=>by unfold xX;split;rfl;split;rw[Gs f,fS];rfl
def yO:∀f l i n,(gF f l i n).length=l.length
  | 0,_,_,_=>rfl
  | f+1,l,i,n=>by unfold gF;split;rfl;split;rw[yO f,fS];rfl
def yQ(l:List bo)(x:bo):(gO l x).length=l.length+1:=by simp[gO,Gs]
theorem Cv(l:List bo):(kr l).length=l.length:=by simp[kr,yO,fS]
def OF{l:List bo}{i j:Nat}(hi:i<l.length)(a:j<l.length){x:bo}:x∈ml l i j->x∈l:=by intro h;unfold ml at h;grind
def Gt(x:bo):gO [] x=[x]:=by simp[gO,xX]
def K2(a x:bo):gO [a] x=if x.1<a.1 then[x,a]else[a,x]:=by simp[gO,xX,nF,ml]
def Qq(a b x:bo):gO [a,b] x=if x.1<a.1 then[x,b,a]else[a,b,x]:=by simp[gO,xX,nF,ml]
def VI(a b c x:bo):gO [a,b,c] x=if x.1<b.1 then(if x.1<a.1 then[x,a,c,b]else[a,x,c,b])else[a,b,c,x]:=by simp[gO,xX,nF,ml]
def tJ(f:Nat){l r:List bo}{x:bo}{n:Nat}(b:l.length=n+1)(h:kr l=r++[x])(a:r.length=n):lE (f+1) l=x::lE f r:=by rw[lE,aZ (by omega),h];grind
def Qs(a:bo):lE 1 [a]=[a]:=by simp[lE,kr,gF,ml]
def Qt(a b:bo):lE 2 [a,b]=[a,b]:=by rw[tJ 1 (r:=[b]) (x:=a) (n:=1) rfl (by simp[kr,gF,ml]) rfl,Qs]
def Qu(a b c:bo):lE 3 [a,b,c]=if b.1<c.1 then[a,b,c]else[a,c,b]:=by rw[tJ 2 (r:=if b.1<c.1 then[b,c]else[c,b]) (x:=a) (n:=2) rfl (by simp[kr,gF,ml,nG,nF];split<;>rfl) (by split<;>rfl)];split<;>rw[Qt]
def VJ(a b c d:bo):lE 4 [a,b,c,d]=a::lE 3 (if c.1<b.1 then(if c.1<d.1 then[c,b,d]else[d,b,c])else if b.1<d.1 then[b,d,c]else[d,b,c]):=by rw[tJ 3 (r:=if c.1<b.1 then(if c.1<d.1 then[c,b,d]else[d,b,c])else if b.1<d.1 then[b,d,c]else[d,b,c]) (x:=a) (n:=3) rfl ?_ (by split<;>split<;>rfl)];by_cases g:c.1<b.1<;>by_cases e:c.1<d.1<;>by_cases f:b.1<d.1<;>simp[kr,gF,ml,nG,nF,g,e,f]
theorem K3(l:List bo)(h:l.length<=4)(e:l.Pairwise λa b=>a.1≠b.1):mJ l=l.foldl gG []:=by
  match l,h with
  | [],_=>rfl
  | [a],_=>simp[mJ,Gt,Qs,gG]
  | [a,b],_ =>
    simp at e;simp only[mJ,List.foldl,Gt,K2,gG,eU,gx];split<;>simp[Qt]
  | [a,b,c],_ =>
    simp at e;obtain⟨⟨s,q⟩,o⟩:=e;simp only[mJ,List.foldl,Gt,K2,gG,eU,gx];by_cases k:b.1<a.1<;>by_cases q2:c.1<a.1<;>by_cases g:c.1<b.1<;>first|omega |
      (have i:(a.1<b.1)=¬(b.1<a.1):=by grind
       have j:(a.1<c.1)=¬(c.1<a.1):=by grind
       have f:(b.1<c.1)=¬(c.1<b.1):=by grind
       simp[k,q2,g,i,j,f,Qq,Qu,gG])
  | [a,b,c,d],_ =>
    simp at e;obtain⟨⟨s,q,o⟩,⟨w,u⟩,v⟩:=e;simp only[mJ,List.foldl,Gt,K2,gG,eU,gx];by_cases k:b.1<a.1<;>by_cases q2:c.1<a.1<;>by_cases g:c.1<b.1<;>by_cases q4:d.1<a.1<;>by_cases r:d.1<b.1<;>by_cases p:d.1<c.1<;>first|omega |
      (have i:(a.1<b.1)=¬(b.1<a.1):=by grind
       have j:(a.1<c.1)=¬(c.1<a.1):=by grind
       have f:(b.1<c.1)=¬(c.1<b.1):=by grind
       have m:(a.1<d.1)=¬(d.1<a.1):=by grind
       have t:(b.1<d.1)=¬(d.1<b.1):=by grind
       have n:(c.1<d.1)=¬(d.1<c.1):=by grind
       simp[k,q2,g,q4,r,p,i,j,f,m,t,n,Qq,VI,VJ,Qu,gG])
section
open Go.Proofs Go.Conc.Lib
def Qk:WgLink:={add:=166,done:=168,wait:=170,relMerge:=188,disable:=189,enable:=190,inBubble:=191,associate:=192,fatal:=193,uOr:=194,uAdd:=195,raceRead:=196,uLoad:=197,uStore:=198,disassociate:=199,semrelease:=200,acquire:=202,isAssociated:=203,uCas:=204,raceWrite:=205,semacquire:=206,orU64:=220,addU64:=221,loadU64:=222,storeU64:=223,casU64:=226,tWgP:=260,tUP:=120,tAssoc:=262,tWg:=238,tAU:=236,tU64:=229,tUint:=200,tU32:=227,tPU32:=266,tPAU:=288,tPU64:=290,tNoCopy:=232,tANoCopy:=233,tAlign64:=234}
def Cp:WgLib ag Qk where
 f_add:=Tryz.func166.trans (dA aa (by kernel_rfl))
 f_done:=Tryz.func168.trans (dA aa (by kernel_rfl))
 f_wait:=Tryz.func170.trans (dA aa (by kernel_rfl))
 f_relMerge:=Tryz.func188.trans (dA aa (by kernel_rfl))
 f_disable:=Tryz.func189.trans (dA aa (by kernel_rfl))
 f_enable:=Tryz.func190.trans (dA aa (by kernel_rfl))
 f_inBubble:=Tryz.func191.trans (dA aa (by kernel_rfl))
 f_associate:=Tryz.func192.trans (dA aa (by kernel_rfl))
 f_fatal:=Tryz.func193.trans (dA aa (by kernel_rfl))
 f_uOr:=Tryz.func194.trans (dA aa (by kernel_rfl))
 f_uAdd:=Tryz.func195.trans (dA aa (by kernel_rfl))
 f_raceRead:=Tryz.func196.trans (dA aa (by kernel_rfl))
 f_uLoad:=Tryz.func197.trans (dA aa (by kernel_rfl))
 f_uStore:=Tryz.func198.trans (dA aa (by kernel_rfl))
 f_disassociate:=Tryz.func199.trans (dA aa (by kernel_rfl))
 f_semrelease:=Tryz.func200.trans (dA aa (by kernel_rfl))
 f_acquire:=Tryz.func202.trans (dA aa (by kernel_rfl))
 f_isAssociated:=Tryz.func203.trans (dA aa (by kernel_rfl))
 f_uCas:=Tryz.func204.trans (dA aa (by kernel_rfl))
 f_raceWrite:=Tryz.func205.trans (dA aa (by kernel_rfl))
 f_semacquire:=Tryz.func206.trans (dA aa (by kernel_rfl))
 f_orU64:=Tryz.func220.trans (dA aa (by kernel_rfl))
 f_addU64:=Tryz.func221.trans (dA aa (by kernel_rfl))
 f_loadU64:=Tryz.func222.trans (dA aa (by kernel_rfl))
 f_storeU64:=Tryz.func223.trans (dA aa (by kernel_rfl))
 f_casU64:=Tryz.func226.trans (dA aa (by kernel_rfl))
 underlying_tWgP:=Tryz.underlying260
 runUnderlying_tWgP:=Tryz.runUnderlying260
 sizeOf_tWgP:=Tryz.sizeOf260
 isAgg_tWgP:=Tryz.isAgg260
 zeroValue_tWgP:=Tryz.zeroValue260
 underlying_tUP:=Tryz.underlying120
 runUnderlying_tUP:=Tryz.runUnderlying120
 sizeOf_tUP:=Tryz.sizeOf120
 isAgg_tUP:=Tryz.isAgg120
 zeroValue_tUP:=Tryz.zeroValue120
 underlying_tI32:=Tryz.underlying262
 runUnderlying_tI32:=Tryz.runUnderlying262
 sizeOf_tI32:=Tryz.sizeOf262
 isAgg_tI32:=Tryz.isAgg262
 zeroValue_tI32:=Tryz.zeroValue262
 underlying_tWg:=Tryz.underlying238
 runUnderlying_tWg:=Tryz.runUnderlying238
 sizeOf_tWg:=Tryz.sizeOf238
 isAgg_tWg:=Tryz.isAgg238
 zeroValue_tWg:=Tryz.zeroValue238
 underlying_tAU:=Tryz.underlying236
 runUnderlying_tAU:=Tryz.runUnderlying236
 sizeOf_tAU:=Tryz.sizeOf236
 isAgg_tAU:=Tryz.isAgg236
 zeroValue_tAU:=Tryz.zeroValue236
 underlying_tU64:=Tryz.underlying229
 runUnderlying_tU64:=Tryz.runUnderlying229
 sizeOf_tU64:=Tryz.sizeOf229
 isAgg_tU64:=Tryz.isAgg229
 zeroValue_tU64:=Tryz.zeroValue229
 underlying_tSh:=Tryz.underlying200
 runUnderlying_tSh:=Tryz.runUnderlying200
 sizeOf_tSh:=Tryz.sizeOf200
 isAgg_tSh:=Tryz.isAgg200
 zeroValue_tSh:=Tryz.zeroValue200
 underlying_tU32:=Tryz.underlying227
 runUnderlying_tU32:=Tryz.runUnderlying227
 sizeOf_tU32:=Tryz.sizeOf227
 isAgg_tU32:=Tryz.isAgg227
 zeroValue_tU32:=Tryz.zeroValue227
 underlying_tPU32:=Tryz.underlying266
 runUnderlying_tPU32:=Tryz.runUnderlying266
 sizeOf_tPU32:=Tryz.sizeOf266
 isAgg_tPU32:=Tryz.isAgg266
 zeroValue_tPU32:=Tryz.zeroValue266
 underlying_tPAU:=Tryz.underlying288
 runUnderlying_tPAU:=Tryz.runUnderlying288
 sizeOf_tPAU:=Tryz.sizeOf288
 isAgg_tPAU:=Tryz.isAgg288
 zeroValue_tPAU:=Tryz.zeroValue288
 underlying_tPU64:=Tryz.underlying290
 runUnderlying_tPU64:=Tryz.runUnderlying290
 sizeOf_tPU64:=Tryz.sizeOf290
 isAgg_tPU64:=Tryz.isAgg290
 zeroValue_tPU64:=Tryz.zeroValue290
 underlying_t0:=Tryz.underlying0
 runUnderlying_t0:=Tryz.runUnderlying0
 sizeOf_t0:=Tryz.sizeOf0
 isAgg_t0:=Tryz.isAgg0
 zeroValue_t0:=Tryz.zeroValue0
 underlying_t3:=Tryz.underlying3
 runUnderlying_t3:=Tryz.runUnderlying3
 sizeOf_t3:=Tryz.sizeOf3
 isAgg_t3:=Tryz.isAgg3
 zeroValue_t3:=Tryz.zeroValue3
 underlying_t4:=Tryz.underlying4
 runUnderlying_t4:=Tryz.runUnderlying4
 sizeOf_t4:=Tryz.sizeOf4
 isAgg_t4:=Tryz.isAgg4
 zeroValue_t4:=Tryz.zeroValue4
 underlying_t9:=Tryz.underlying9
 runUnderlying_t9:=Tryz.runUnderlying9
 sizeOf_t9:=Tryz.sizeOf9
 isAgg_t9:=Tryz.isAgg9
 zeroValue_t9:=Tryz.zeroValue9
 underlying_t20:=Tryz.underlying20
 runUnderlying_t20:=Tryz.runUnderlying20
 sizeOf_t20:=Tryz.sizeOf20
 isAgg_t20:=Tryz.isAgg20
 zeroValue_t20:=Tryz.zeroValue20
 underlying_t21:=Tryz.underlying21
 runUnderlying_t21:=Tryz.runUnderlying21
 sizeOf_t21:=Tryz.sizeOf21
 isAgg_t21:=Tryz.isAgg21
 zeroValue_t21:=Tryz.zeroValue21
 room_tWg:=by kernel_rfl
 room_tU32:=by kernel_rfl
end
end Go.AM.R1
namespace Go.AM
def cg.imp{σ:List aP}{s:St}{d a:D}{ds FE:List D}(h:∀v,dj σ s v d->dj σ s v a)(k:∀vs,cg σ s vs ds->cg σ s vs FE):∀vs,cg σ s vs (d::ds)->cg σ s vs (a::FE)
 |[],r=>r.elim
 |v::vs,r=>⟨h v r.1,k vs r.2⟩
abbrev dP(f:bz):D:=.e (.agg [.c (.str f.1),.c (.str f.2)])
abbrev Sf(a:List bz)(b:Bool):D:=.eX [.one (.c (.sl af 2 a.length (cF.fn a))),.one (.c (.bool b))]
namespace R1
variable {X:Cx ag}
def V9:dr:=λargs σ=>match args,σ with
 |[c],[]=>match kX 2 c with
  |none=>ae
  |some (a,b)=>aa (dB (cx (cF.list a b)),[],[cF.fits a b])
 |_,_=>ae
def t21:ee X 21 V9:=by
 intro args σ res σ' obs h b;unfold V9 at h;split at h
 .split at h
  .cases h
  rename_i c d a;cases h;exact(yS _ ).args (λ_ vs=>cg.imp (λ_=>cF.jS a b) (λ_ r=>r) vs)
 grind
def ct3:List (Nat×dr):=(21,V9)::ct2
def Zr:bE X ct3:=bE.cons t21 tT
end R1
def mg.cu{α:Type}(c:mg α)(l:List α)(x:α):cv (l.length+1) (cC l.length (c.fn l) (λi=>[c.enc x].getD i [])) (c.fn (l++[x])):=by intro i hi;unfold cC mg.fn AE;grind
@[simp] theorem cv.same{n:Nat}{f:Nat->List C}:cv n f f:=λ_ _=>rfl
@[simp] theorem cv.nil{f g:Nat->List C}:cv 0 f g:=λi h=>by omega
namespace R1
variable {X:Cx ag}
def mb(t:List bz)(p:Bs):List bz:=t.filter λf=>!(f.1==p)
def E7{t:List bz}{p:Bs}{i:Nat}(h:i<t.length):mb (t.take (i+1)) p=mb (t.take i) p++(if fh t i=p then[]else[(fh t i,sY t i)]):=by
 have e:t.getD i ([],[])=t[i]:=by grind
 have a:(fh t i,sY t i)=t[i]:=by simp only[fh,sY,e]
 rw[ld,br h,a];simp only[mb,List.filter_append,Option.toList_some];grind
theorem Is(t:List bz)(p:Bs):(mb t p).length<=t.length:=List.length_filter_le _ _
def GO(t:List bz)(p:Bs)(c:t.length<=4000000):Ev X 87 [cF.sl t,dS p] [] (cF.sl (mb t p)) []:=by
 refine Ev.bQ Tryz.func87 rfl λf=>?_;refine bt rfl ay ?_;refine AK.iB 5 76 2 rfl rfl ?_;refine AK.j1 (λi=>i<=t.length) (λi:Nat=>[(0,cF.sl t),(1,dS p),(6,dI i),(5,.e (.one (.vec 0 2 (mb (t.take i) p).length (cF.fn (mb (t.take i) p)))))]) (λi=>[.vec 76 2 (mb (t.take i) p).length (cF.fn (mb (t.take i) p))]) (λi=>t.length-i) 0 rfl ?_ rfl ?_ (by omega) ?_
 .simp[cv,mb]
 .simp[cv,mb]
 intro i hi;by_cases h:i<t.length
 .have a:=E7 (p:=p) h;have d:(mb (t.take i) p).length<=4000000:=by grind[Is]
  by_cases b:fh t i=p
  .rw[bm b,iO]at a;refine aX [(11,ab),(20,af)] rfl ?_ (AK.gd (i+1) rfl ?_ rfl ?_ ?_ ?_)
   .simp[-ar,h,gI,b,bA];omega
   .rw[a];simp[cv]
   .rw[a];simp[cv]
   .omega
   .omega
  .rw[aZ b]at a;refine aX [(11,ab),(20,ab)] rfl ?_ (AK.gd (i+1) rfl ?_ rfl ?_ ?_ ?_)
   .simp[-ar,h,gI,b,bA,i76];omega
   .rw[a];simp[-ar];exact cF.cu _ (fh t i,sY t i)
   .rw[a];simp[-ar];exact cF.cu _ (fh t i,sY t i)
   .omega
   .omega
 .have:i=t.length:=by omega
  subst this;refine aX [(11,af)] rfl (by simp) (AK.leave rfl rfl ?_);refine bt rfl ay (AK.bw rfl ?_);simp[cv]
def Zt:dr:=λargs σ=>match args,σ with
 |[f,.e (.one (.c (.str b)))],[]=>match kX 2 f with
  |none=>ae
  |some (a,d)=>aa (cF.sl (mb (cF.list a d) b),[],[cF.fits a d,((cF.list a d)).length<=4000000])
 |_,_=>ae
def t87:ee X 87 Zt:=by
 intro args σ res σ' obs h a;unfold Zt at h;split at h
 .split at h
  .cases h
  rename_i c d b;cases h;exact(GO _ _ (a.2)).args (λ_ vs=>cg.imp (λ_=>cF.jS b a.1) (cg.imp (λ_ r=>r) (λ_ r=>r)) vs)
 grind
def ct5:List (Nat×dr):=(87,Zt)::ct3
def Zu:bE X ct5:=bE.cons t87 Zr
end R1
def Fits.QD{args:List D}{σ:List aP}(h:Fits args σ)(k:Nat){cs:List A}(hk:args[k]?=aa (.e (.agg cs)))(j:Nat){t:Bool}{q n:Nat}{es:Nat->List C}(hj:cs[j]?=aa (A.c (.sl t q n es))):n<=9223372036854775807:=by obtain⟨s,v,a⟩:=h.at hk;obtain⟨vs,_,h2⟩:=a;obtain⟨u,_,b⟩:=dX.get h2 hj;cases b<;>omega
namespace R1
def iG{n i:Nat}{p:Nat->Bool}(hi:i<n)(h:p i=af):(bg n).all p=af:=by grind
def jV{i:Nat}{p:Nat->Bool}(a:∀j,j<i->p j=ab)(h:p i=ab):∀j,j<i+1->p j=ab:=λj b=>by grind
end R1
def Tr.put(a b:Int):Tr->Tr
 |.nil=>.nd .nil a b .nil
 |.nd l x y r=>if a<x then .nd (l.put a b) x y r else if x<a then .nd l x y (r.put a b)else .nd l a b r
def Tr.list:Tr->List (Int×Int)
 |.nil=>[]
 |.nd l x y r=>l.list++(x,y)::r.list
def Tr.find(n:Int):Tr->Int
 |.nil=>0
 |.nd l x y r=>if n=x then y else if n<x then l.find n else r.find n
namespace R1
theorem LH{l:List cn}{s:cn}(h:∀x∈l,x.1<s.1):gp l s=l++[s]:=by
 induction l with
 |nil=>rfl
 |cons y r a =>
  simp only[gp];grind
def CU{l r:List cn}{s:cn}(h:∀x∈l,x.1<s.1):gp (l++r) s=l++gp r s:=by
 induction l with
 |nil=>rfl
 |cons y l a =>
  simp only[rJ,gp];grind
def Io{l r:List cn}{s:cn}(h:∀x∈r,s.1<x.1):gp (l++r) s=gp l s++r:=by
 have e:r.filter (λz=>!(z.1==s.1))=r:=zr.2 λx a=>by grind
 induction l with
 |nil =>
  cases r with
  |nil=>rfl
  |cons y r =>
   have:=h y mT;simp only[mm,gp];grind
 |cons y l b =>
  simp only[rJ,gp];grind
abbrev Tr.Ok(t:Tr):Prop:=t.list.Pairwise λx y=>x.1<y.1
theorem xH{a b:Int}:∀{t:Tr},Tr.Ok t->(t.put a b).list=gp t.list (a,b)
 |.nil,_=>rfl
 |.nd l x y r,h=>by
  obtain⟨j,i,k⟩:=uZ.1 h;have f:=ji.1 i;have g:∀z∈l.list,z.1<x:=λz c=>k z c (x,y) mT;simp only[Tr.put,Tr.list];split
  .rename_i d;simp only[Tr.list];rw[xH (t:=l) j,Io (r:=(x,y)::r.list)];grind
  split
  .rename_i _ d;simp only[Tr.list];rw[xH (t:=r) f.2,CU (l:=l.list) λz c=>by grind];simp only[gp];grind
  .have e:a=x:=by omega
   subst e;simp only[Tr.list];rw[CU (l:=l.list) λz c=>g z c];simp only[gp];rw[aZ (by simp),List.filter_cons,aZ (by simp),zr.2 λz c=>by grind]
theorem OY{l:List cn}{s:cn}(h:l.Pairwise λx y=>x.1<y.1):(gp l s).Pairwise (λx y=>x.1<y.1)/\∀z∈gp l s,z=s∨z∈l:=by
 induction l with
 |nil=>simp[gp]
 |cons y r b =>
  obtain⟨d,a⟩:=ji.1 h;obtain⟨c,i2⟩:=b a;simp only[gp];grind[List.pairwise_cons]
def tS{n:Int}:∀{t:Tr},Tr.Ok t->t.find n=mI t.list n
 |.nil,_=>rfl
 |.nd l x y r,h=>by obtain⟨d,c,e⟩:=uZ.1 h;have b:=ji.1 c;have f:∀z∈l.list,z.1<x:=λz a=>e z a (x,y) mT;simp only[Tr.find,Tr.list];have g:=tS (n:=n) (t:=l) d;have i2:=tS (n:=n) (t:=r) b.2;unfold mI at *;grind
end R1
end Go.AM
namespace Go.AM.R1
section
variable {X:Cx ag}
def rv(f:bz)(acc:List bz×Bool)(g:Bs):List bz×Bool:=if acc.2=ab then acc else if bk g f.1=ab then acc else(acc.1++[f],ab)
def O3(f:bz)(a:List bz×Bool)(g:bz):List bz×Bool:=if g.1=f.1 then a else(a.1++[g],a.2)
def oy(f:bz)(acc:List bz×Bool)(g:bz):List bz×Bool:=O3 f (rv f acc g.1) g
def lu(f:bz)(t:List bz):List bz×Bool:=t.foldl (oy f) ([],af)
def sQ(t:List bz)(f:bz):List bz:=if(lu f t).2=ab then(lu f t).1 else(lu f t).1++[f]
theorem fileAt{t:List bz}{i:Nat}(h:i<t.length):t[i]=(fh t i,sY t i):=by
 have e:t.getD i ([],[])=t[i]:=by grind
 simp only[fh,sY,e]
def C2{f:bz}{t:List bz}{i:Nat}(h:i<t.length):lu f (t.take (i+1))=oy f (lu f (t.take i)) (fh t i,sY t i):=by rw[ld,br h,fileAt h];simp[lu]
def C3(f:bz)(acc:List bz×Bool)(g:Bs):(rv f acc g).1.length<=acc.1.length+1:=by unfold rv;grind
def LP(f:bz)(acc:List bz×Bool)(g:bz):(O3 f acc g).1.length<=acc.1.length+1:=by unfold O3;grind
def xI(f:bz):∀(t:List bz)(acc:List bz×Bool),(t.foldl (oy f) acc).1.length<=acc.1.length+2*t.length
 |[],acc=>by simp
 |g::r,acc=>by
  have c:=xI f r (oy f acc g);have a:=C3 f acc g.1;have b:=LP f (rv f acc g.1) g;simp only[lh,eU];have:(oy f acc g).1.length<=acc.1.length+2:=by unfold oy;omega
  omega
abbrev dV(l:Nat)(t:List bz):D:=.e (.one (.vec l 2 t.length (cF.fn t)))
abbrev bV(t:List bz):aP:=.vec 76 2 t.length (cF.fn t)
def O4(t:List bz)(f:bz)(r:t.length<=4000000):Ev X 88 [cF.sl t,dP f] [] (dV 0 (sQ t f)) [bV (sQ t f)]:=by
 refine Ev.bQ Tryz.func88 rfl λs=>?_;refine bt rfl ay ?_;refine AK.iB 5 76 2 rfl rfl ?_;let A:Nat->List bz×Bool:=λi=>lu f (t.take i);have b:∀i,i<=t.length->(A i).1.length<=8000000:=by intro i hi;have:=xI f (t.take i) ([],af);simp at this;show(lu f (t.take i)).1.length<=_;unfold lu;omega
 refine AK.j1 (λi=>i<=t.length) (λi:Nat=>[(0,cF.sl t),(3,.e (.one (.ptr 0 0))),(7,dI i),(5,dV 1 (A i).1),(6,dB (A i).2)]) (λi=>[.cells 76 [.c (.str f.1),.c (.str f.2)],bV (A i).1]) (λi=>t.length-i) 0 rfl ?_ rfl ?_ (by omega) ?_
 .simp[cv,A,lu]
 .simp[cv,A,lu]
 intro i hi;by_cases h:i<t.length
 .have p:A (i+1)=oy f (A i) (fh t i,sY t i):=C2 h;have q:=b i hi;generalize A i=acc at *;have o:=C3 f acc (fh t i);apply AK.join [(0,cF.sl t),(3,.e (.one (.ptr 0 0))),(7,dI i),(5,dV 1 (rv f acc (fh t i)).1),(6,dB (rv f acc (fh t i)).2)] [.cells 76 [.c (.str f.1),.c (.str f.2)],bV (rv f acc (fh t i)).1]
  .intro hk;cases d:acc.2 with
   |true =>
    have l:rv f acc (fh t i)=acc:=by unfold rv;grind
    rw[l]at hk;refine bJ [(12,ab),(15,ab),(1000009,ab)] rfl ?_ (hk _ _ rfl ?_)
    .simp[h]
    .simp[d]
   |false =>
    cases k:bk (fh t i) f.1 with
    |true =>
     have l:rv f acc (fh t i)=acc:=by unfold rv;grind
     rw[l]at hk;refine bJ [(12,ab),(15,af),(25,af),(1000009,ab)] rfl ?_ (hk _ _ rfl ?_)
     .simp[-ar,h,gI,k]
     .simp[d]
    |false =>
     have l:rv f acc (fh t i)=(acc.1++[f],ab):=by unfold rv;grind
     rw[l]at hk;refine bJ [(12,ab),(15,af),(25,ab),(1000009,ab)] rfl ?_ (AK.norm _ rfl ?_ (hk _ _ rfl ?_))
     .simp[-ar,h,gI,k,i76];omega
     .simp[-ar];exact cF.cu _ f
     .simp[-ar];exact cF.cu _ f
  .have j:A (i+1)=O3 f (rv f acc (fh t i)) (fh t i,sY t i):=p;generalize rv f acc (fh t i)=a1 at *;by_cases m:fh t i=f.1
   .have a:A (i+1)=a1:=by rw[j];exact bm m
    refine bJ [(38,af)] rfl ?_ (AK.gd (i+1) rfl ?_ rfl ?_ ?_ ?_)
    .simp[-ar,h,gI,m,bA];omega
    .rw[a];simp
    .rw[a];simp
    .omega
    .omega
   .have a:A (i+1)=(a1.1++[(fh t i,sY t i)],a1.2):=by rw[j];exact aZ m
    refine bJ [(38,ab)] rfl ?_ (AK.gd (i+1) rfl ?_ rfl ?_ ?_ ?_)
    .simp[-ar,h,gI,m,bA,i76];omega
    .rw[a];simp[-ar];exact cF.cu _ (fh t i,sY t i)
    .rw[a];simp[-ar];exact cF.cu _ (fh t i,sY t i)
    .omega
    .omega
 .have:i=t.length:=by omega
  subst this;have n:A t.length=lu f t:=by grind
  have q:=b t.length (bh _);refine aX [(12,af)] rfl (by simp) (AK.leave rfl rfl ?_);have g:sQ t f=if(A t.length).2=ab then(A t.length).1 else(A t.length).1++[f]:=by rw[n];rfl
  cases d:(A t.length).2 with
  |true =>
   rw[d,bm rfl]at g;refine aX [(46,ab)] rfl ?_ (AK.norm [.cells 76 [.c (.str f.1),.c (.str f.2)],bV (sQ t f)] rfl ?_ (AK.db [1] rfl ?_ rfl rfl rfl ?_))
   .simp
   .rw[g];simp
   .rw[g];simp
   grind
  |false =>
   rw[d,aZ (by simp)]at g;refine aX [(46,af)] rfl ?_ (AK.norm [.cells 76 [.c (.str f.1),.c (.str f.2)],bV (sQ t f)] rfl ?_ (AK.db [1] rfl ?_ rfl rfl rfl ?_))
   .simp[i76];omega
   .rw[g];simp[-ar];exact cF.cu _ f
   .rw[g];simp[-ar];exact cF.cu _ f
   grind
end
end Go.AM.R1
namespace Go.AM
def cv.app0{n:Nat}{f g:Nat->List C}:cv n (cC 0 f g) g:=λi _=>by simp[cC]
namespace R1
variable {X:Cx ag}
def Zv:dr:=λargs σ=>match args,σ with
 |[d,.e (.agg [.c (.str b0),.c (.str b1)])],[]=>match kX 2 d with
  |none=>ae
  |some (a,b)=>aa (dV 0 (sQ (cF.list a b) (b0,b1)) ,[ bV (sQ (cF.list a b) (b0,b1))],[cF.fits a b,((cF.list a b)).length<=4000000])
 |_,_=>ae
def t88:ee X 88 Zv:=by
 intro args σ res σ' obs h a;unfold Zv at h;split at h
 .split at h
  .cases h
  rename_i c d b;cases h;exact(O4 _ _ (a.2)).args (λ_ vs=>cg.imp (λ_=>cF.jS b a.1) (cg.imp (λ_ r=>r) (λ_ r=>r)) vs)
 .cases h
def ct6:List (Nat×dr):=(88,Zv)::ct5
def Iu:bE X ct6:=bE.cons t88 (Zu)
def ek(t:List bz)(p x:Bs):List bz×Bool :=
 if cx t=ab/\dD p=ab/\ef x=ab then(if cx (sQ t (p,x))=ab then(sQ t (p,x),ab)else(t,af))else([],af)
abbrev tVB(l:Nat)(t:List bz)(b:Bool):D:=.eX [.one (.vec l 2 t.length (cF.fn t)),.one (.c (.bool b))]
def mc{t:List bz}(h:cx t=ab):t.length<=6:=by simp only[cx,bR,ba]at h;exact h.2
def uA(t:List bz)(p x:Bs):Ev X 42 [cF.sl t,dS p,dS x] [] (tVB 0 (ek t p x).1 (ek t p x).2) [bV (ek t p x).1]:=by
 refine Ev.bQ Tryz.func42 rfl λi=>?_;have a:¬(cx t=ab/\dD p=ab/\ef x=ab)->ek t p x=([],af):=λh=>aZ h;cases b:cx t with
 |false =>
  rw[a (by grind)];refine aW Iu [(10,af)] rfl ?_ ?_
  .simp[cF.list_fn,cF.aU,b]
  .refine AK.iB 6 76 2 rfl rfl (AK.norm [bV []] rfl ?_ (AK.db [0] rfl ?_ rfl rfl rfl ?_))
   .simp[cv]
   .simp[cv]
   grind
 |true =>
  have g:=mc b;cases c:dD p with
  |false =>
   rw[a (by grind)];refine aW Iu [(10,ab),(14,af)] rfl ?_ ?_
   .simp[cF.list_fn,cF.aU,b,c]
   .refine AK.iB 6 76 2 rfl rfl (AK.norm [bV []] rfl ?_ (AK.db [0] rfl ?_ rfl rfl rfl ?_))
    .simp[cv]
    .simp[cv]
    grind
  |true =>
   cases e:ef x with
   |false =>
    rw[a (by grind)];refine aW Iu [(10,ab),(14,ab),(19,af)] rfl ?_ ?_
    .simp[cF.list_fn,cF.aU,b,c,e]
    .refine AK.iB 6 76 2 rfl rfl (AK.norm [bV []] rfl ?_ (AK.db [0] rfl ?_ rfl rfl rfl ?_))
     .simp[cv]
     .simp[cv]
     grind
   |true =>
    have f:ek t p x=if cx (sQ t (p,x))=ab then(sQ t (p,x),ab)else(t,af):=bm ⟨b,c,e⟩;cases d:cx (sQ t (p,x))with
    |true =>
     rw[d,bm rfl]at f;rw[f];refine aW Iu [(10,ab),(14,ab),(19,ab),(29,ab)] rfl ?_ (AK.norm [bV (sQ t (p,x))] rfl ?_ (AK.db [0] rfl ?_ rfl rfl rfl ?_))
     .simp[cF.list_fn,cF.aU,b,c,e,d];omega
     .simp[cF.list_fn]
     .simp[cF.list_fn]
     grind
    |false =>
     rw[d,aZ (by simp)]at f;rw[f];refine aW Iu [(10,ab),(14,ab),(19,ab),(29,af)] rfl ?_ (AK.norm [bV (sQ t (p,x)),bV t] rfl ?_ (AK.db [1] rfl ?_ rfl rfl rfl ?_))
     .simp[cF.list_fn,cF.aU,b,c,e,d,i76];omega
     .simp[cF.list_fn,cv.app0]
     .simp[cv.app0]
     grind
def xJ(t:List bz)(p x:Bs):Ev X 42 [cF.sl t,dS p,dS x] [] (Sf (ek t p x).1 (ek t p x).2) [] :=
 (uA t p x).forget rfl (by simp) rfl
def Zw:dr:=λargs σ=>match args,σ with
 |[f,.e (.one (.c (.str b))),.e (.one (.c (.str c)))],[]=>match kX 2 f with
  |none=>ae
  |some (a,d)=>aa (Sf (ek (cF.list a d) b c).1 (ek (cF.list a d) b c).2,[],[cF.fits a d])
 |_,_=>ae
def t42:ee X 42 Zw:=by
 intro args σ res σ' obs h b;unfold Zw at h;split at h
 .split at h
  .cases h
  rename_i c d a;cases h;exact(xJ _ _ _ ).args (λ_ vs=>cg.imp (λ_=>cF.jS a b) (cg.imp (λ_ r=>r) (cg.imp (λ_ r=>r) (λ_ r=>r))) vs)
 .cases h
def ct7:List (Nat×dr):=(42,Zw)::ct6
def Zx:bE X ct7:=bE.cons t42 (Iu)
end R1
def HF(cs:List C)(j:Nat):Nat×(Nat->List C):=match dt j cs with|some (.sl _ _ n es)=>(n,es)|_=>(0,λ_=>[])
def cI:mg Int:={k:=1,enc:=λn=>[.int .i64 n],dec:=λcs=>xc cs 0,bZ:=0,inv:=λ_=>rfl,len:=λ_=>rfl}
def cS:mg Bs:={k:=1,enc:=λs=>[.str s],dec:=λcs=>Ck cs 0,bZ:=[],inv:=λ_=>rfl,len:=λ_=>rfl}
namespace R1
def dN:mg bo:={k:=2,enc:=λx=>[.int .i64 x.1,.str x.2],dec:=λcs=>(xc cs 0,Ck cs 1),bZ:=(0,[]),inv:=λ_=>rfl,len:=λ_=>rfl}
def oS:mg cn:={k:=2,enc:=λx=>[.int .i64 x.1,.int .i64 x.2],dec:=λcs=>(xc cs 0,xc cs 1),bZ:=(0,0),inv:=λ_=>rfl,len:=λ_=>rfl}
abbrev sP(p:bG):C:=.sl af 2 p.2.length (dN.fn p.2)
def cP:mg bG:={k:=2,enc:=λp=>[.int .i64 p.1,sP p],dec:=λcs=>(xc cs 0,dN.list (HF cs 1).1 (HF cs 1).2),bZ:=(0,[]),inv:=λp=>by show(p.1,dN.list p.2.length (dN.fn p.2))=p;rw[dN.list_fn],len:=λ_=>rfl}
def cL:mg jT:={k:=2,enc:=λx=>[.str x.1,.sl af 1 x.2.length (cI.fn x.2)],dec:=λcs=>(Ck cs 0,cI.list (HF cs 1).1 (HF cs 1).2),bZ:=([],[]),inv:=λp=>by show(p.1,cI.list p.2.length (cI.fn p.2))=p;rw[cI.list_fn],len:=λ_=>rfl}
def gf:mg gE:={k:=2,enc:=λx=>[.int .i64 x.1,.sl af 2 x.2.length (cL.fn x.2)],dec:=λcs=>(xc cs 0,cL.list (HF cs 1).1 (HF cs 1).2),bZ:=(0,[]),inv:=λp=>by show(p.1,cL.list p.2.length (cL.fn p.2))=p;rw[cL.list_fn],len:=λ_=>rfl}
def cH:mg (Int×Int):=oS
abbrev KE(p:bG):D:=.e (.agg [.c (.int .i64 p.1),.c (sP p)])
abbrev Xo(r:Option Bs):D:=.e (.agg [.c (.str (r.getD [])),.c (.bool r.isSome)])
end R1
structure Arg(α:Type) where
 enc:α->D
 arg:D->Option (α×List Prop)
 ok:∀{d a o},arg d=aa (a,o)->az o->∀{σ:List aP} {s:St} {v:ah},dj σ s v d->dj σ s v (enc a)
def aI:Arg Int:=⟨dI,λd=>match d with|.e (.one (.c (.int .i64 n)))=>aa (n,[])|_=>ae,λ{d a o} h _ _ _ _ r=>by grind⟩
def aS:Arg Bs:=⟨dS,λd=>match d with|.e (.one (.c (.str n)))=>aa (n,[])|_=>ae,λ{d a o} h _ _ _ _ r=>by grind⟩
def aL{α:Type}(c:mg α):Arg (List α):=⟨c.sl,λd=>match kX c.k d with|some (n,es)=>aa (c.list n es,[c.fits n es])|none=>ae,λ{d a o} h b _ _ _ r=>by
 split at h
 .rename_i n es he;cases h;exact c.jS he b r
 .cases h⟩
def TP:Arg (Int×Bs):=⟨λx=>.e (.agg [.c (.int .i64 x.1),.c (.str x.2)]),λd=>match d with|.e (.agg [.c (.int .i64 a),.c (.str b)])=>aa ((a,b),[])|_=>ae,λ{d a o} h _ _ _ _ r=>by grind⟩
def TQ:Arg (Int×Int):=⟨λx=>.e (.agg [.c (.int .i64 x.1),.c (.int .i64 x.2)]),λd=>match d with|.e (.agg [.c (.int .i64 a),.c (.int .i64 b)])=>aa ((a,b),[])|_=>ae,λ{d a o} h _ _ _ _ r=>by grind⟩
def Ex{α:Type}(c:mg α):Arg (Int×List α):=⟨λx=>.e (.agg [.c (.int .i64 x.1),.c (.sl af c.k x.2.length (c.fn x.2))]),λd=>match d with
 |.e (.agg [.c (.int .i64 a),.c b])=>match kX c.k (.e (.one (.c b)))with|some (n,es)=>aa ((a,c.list n es),[c.fits n es])|none=>ae
 |_=>ae,λ{d a o} h m _ s _ r=>by
 split at h
 .split at h
  .rename_i n es he;cases h;obtain⟨vs,p,g⟩:=r
   match vs,g with
   |[],g=>exact g.elim
   |[_],g=>exact g.2.elim
   |_::_::_::_,g=>exact g.2.2.elim
   |[q,l],g=>exact⟨_,p,g.1,c.jS (σ:=[]) (s:=s) (v:=l) he m g.2.1,ay⟩
  .cases h
 .cases h⟩
def kq{α:Type}(A:Arg α)(res:α->D)(pre:α->List Prop):dr:=λargs σ=>match args,σ with
 |[d],[]=>match A.arg d with
  |some (a,o)=>aa (res a,[],kM o (pre a))
  |none=>ae
 |_,_=>ae
def oQ{α i:Type}(A:Arg α)(B:Arg i)(res:α->i->D)(pre:α->i->List Prop):dr:=λargs σ=>match args,σ with
 |[d,e],[]=>match A.arg d with
  |some (a,o)=>match B.arg e with
   |some (b,p)=>aa (res a b,[],kM o (kM p (pre a b)))
   |none=>ae
  |none=>ae
 |_,_=>ae
def Gg{α i j:Type}(A:Arg α)(B:Arg i)(C:Arg j)(res:α->i->j->D)(pre:α->i->j->List Prop):dr:=λargs σ=>match args,σ with
 |[d,e,f],[]=>match A.arg d with
  |some (a,o)=>match B.arg e with
   |some (b,p)=>match C.arg f with
    |some (c,q)=>aa (res a b c,[],kM o (kM p (kM q (pre a b c))))
    |none=>ae
   |none=>ae
  |none=>ae
 |_,_=>ae
section
variable {P:aq}{X:Cx P}{f:aJ}{α i j:Type}{A:Arg α}{B:Arg i}{C:Arg j}
def ee.px{res:α->D}{pre:α->List Prop}(h:∀a,az (pre a)->Ev X f [A.enc a] [] (res a) []):ee X f (kq A res pre):=by
 intro args σ r σ' obs h1 ho;unfold kq at h1;split at h1
 .split at h1
  .rename_i d a o b;cases h1;rw[az.cat]at ho;exact(h a ho.2).args λs vs=>cg.imp (λ_ r=>A.ok b ho.1 r) (λ_ r=>r) vs
  .cases h1
 .cases h1
def ee.sv{res:α->i->D}{pre:α->i->List Prop}(h:∀a b,az (pre a b)->Ev X f [A.enc a,B.enc b] [] (res a b) []):ee X f (oQ A B res pre):=by
 intro args σ r σ' obs h1 ho;unfold oQ at h1;split at h1
 .split at h1
  .rename_i d e a o c;split at h1
   .rename_i b p g;cases h1;rw[az.cat,az.cat]at ho;exact(h a b ho.2.2).args λs vs=>cg.imp (λ_ r=>A.ok c ho.1 r) (cg.imp (λ_ r=>B.ok g ho.2.1 r) (λ_ r=>r)) vs
   .cases h1
  .cases h1
 .cases h1
def ee.M6{res:α->i->j->D}{pre:α->i->j->List Prop}(h:∀a b c,az (pre a b c)->Ev X f [A.enc a,B.enc b,C.enc c] [] (res a b c) []):ee X f (Gg A B C res pre):=by
 intro args σ r σ' obs h1 ho;unfold Gg at h1;split at h1
 .split at h1
  .rename_i d e g a o k;split at h1
   .rename_i b p l;split at h1
    .rename_i c q m;cases h1;rw[az.cat,az.cat,az.cat]at ho;exact(h a b c ho.2.2.2).args λs vs=>cg.imp (λ_ r=>A.ok k ho.1 r) (cg.imp (λ_ r=>B.ok l ho.2.1 r) (cg.imp (λ_ r=>C.ok m ho.2.2.1 r) (λ_ r=>r))) vs
    .cases h1
   .cases h1
  .cases h1
 .cases h1
end
namespace R1
def xd(a:List D)(res:D):dr:=λargs σ=>match σ with|[]=>aa (res,[],[args=a])|_=>ae
def As{X:Cx ag}{f:aJ}{a:List D}{res:D}(h:Ev X f a [] res []):ee X f (xd a res):=by
 intro args σ r σ' obs he ho;unfold xd at he;split at he
 .cases he;have:args=a:=ho;subst this;exact h
 .cases he
def yI(a:List D)(σ0:List aP)(res:D)(σ1:List aP):dr:=λargs σ=>aa (res,σ1,[args=a,σ=σ0])
def Cl{X:Cx ag}{f:aJ}{a:List D}{σ0 σ1:List aP}{res:D}(h:Ev X f a σ0 res σ1):ee X f (yI a σ0 res σ1):=by intro args σ r σ' obs he ho;cases he;obtain⟨b,c⟩:args=a/\σ=σ0:=ho;subst b c;exact h
end R1
end Go.AM
namespace Go.AM.R1
section
variable {X:Cx ag}
def Kz(k:Int):Ev X 30 [dI k] [] (dB (cd k)) []:=by
 refine Ev.bQ Tryz.func30 rfl λc=>?_;by_cases a:1<=k
 .by_cases b:k<=99
  .refine aX [(4,ab),(7,ab)] rfl ?_ (AK.bw rfl ?_)
   .simp[a,b]
   .simp[cd,a,b]
  .refine aX [(4,ab),(7,af)] rfl ?_ (AK.bw rfl ?_)
   .simp[a];omega
   .simp[cd,a,b]
 .refine aX [(4,af)] rfl ?_ (AK.bw rfl ?_)
  .simp;omega
  .simp[cd,a]
def t30:ee X 30 (kq aI (λk=>dB (cd k)) λ_=>[]):=.px λk _=>Kz k
def Ap{s:Bs}{i:Nat}(h:i<s.length):b6 (s.take (i+1))=(b6 (s.take i)&&eP (s.getD i 0)):=by unfold b6;grind[List.take_add_one]
def py{b:UInt8}:eP b=ab↔97<=(b.toNat:Int)/\(b.toNat:Int)<=122:=by simp[eP];omega
def w5{s:Bs}{i:Nat}(h:i<s.length)(b:eP (s.getD i 0)=af):b6 s=af:=by
 cases a:b6 s with
 |false=>rfl
 |true =>
  have:=List.all_eq_true.1 a (s.getD i 0) (by grind);grind
def Cg(s:Bs):Ev X 113 [dS s] [] (dB (b6 s)) []:=by
 refine Ev.bQ Tryz.func113 rfl λg=>?_;have f:=g.str 0 rfl;refine bt rfl ay ?_;refine AK.wI (λi=>i<=s.length/\b6 (s.take i)=ab) (λi:Nat=>[(0,dS s),(5,dI s.length),(6,dI i)]) (λ_=>[]) (λi=>s.length-i) 0 rfl (by simp) ⟨by omega,by simp[b6]⟩ rfl ?_;rintro i ⟨hi,a⟩;by_cases h:i<s.length
 .by_cases b:cK s i<97
  .refine aX [(7,ab),(12,ab)] rfl ?_ (AK.iC (cp.zero rfl ?_))
   .simp[-ar,h,cM,b]
   .have:eP (s.getD i 0)=af:=by
     cases c:eP (s.getD i 0)with
     |false=>rfl
     |true=>have:=py.1 c;unfold cK at b;omega
    simp[w5 h this]
  .by_cases d:cK s i<=122
   .refine aX [(7,ab),(12,af),(17,af)] rfl ?_ (AK.again (i+1) rfl ?_ ?_ ?_ rfl)
    .simp[-ar,h,cM,b,d,bA];grind
    .simp
    .refine⟨by omega,?_⟩;rw[Ap h,a,fC];exact py.2 (by unfold cK at b d;omega)
    .omega
   .refine aX [(7,ab),(12,af),(17,ab)] rfl ?_ (AK.iC (cp.zero rfl ?_))
    .simp[-ar,h,cM,b];grind
    .have:eP (s.getD i 0)=af:=by
      cases c:eP (s.getD i 0)with
      |false=>rfl
      |true=>have:=py.1 c;unfold cK at d;omega
     simp[w5 h this]
 .have e:i=s.length:=by omega
  subst e;refine aX [(7,af)] rfl (by simp) (AK.leave rfl rfl ?_);refine bt rfl ay (AK.bw rfl ?_);rw[dh]at a;simp[a]
def Vl:ee X 113 (kq aS (λs=>dB (b6 s)) λ_=>[]):=.px λk _=>Cg k
abbrev tb1:List (Nat×dr):=[(30,kq aI (λk=>dB (cd k)) λ_=>[]),(113,kq aS (λs=>dB (b6 s)) λ_=>[])]
def YR:bE X tb1:=.cons t30 (.cons Vl .nil)
def Ch(p:Bs):Ev X 129 [dS p] [] (dB (bx p)) []:=by
 refine Ev.bQ Tryz.func129 rfl λc=>?_;by_cases a:1<=p.length
 .by_cases b:p.length<=8
  .refine aW YR [(5,ab),(9,ab),(11,ab)] rfl ?_ (AK.bw rfl ?_)
   .simp;omega
   .simp[bx,a,b]
  .refine aW YR [(5,ab),(9,af),(11,af)] rfl ?_ (AK.bw rfl ?_)
   .simp;omega
   .simp[bx,a,b]
 .refine aW YR [(5,af),(11,af)] rfl ?_ (AK.bw rfl ?_)
  .simp;omega
  .simp[bx,a]
def t129:ee X 129 (kq aS (λs=>dB (bx s)) λ_=>[]):=.px λk _=>Ch k
def Ci(n:Nat)(h:n<=4000000):Ev X 146 [dI n] [] (dI (cG n)) []:=by
 refine Ev.bQ Tryz.func146 rfl λe=>?_;by_cases c:n<1
 .refine aX [(5,ab),(9,ab)] rfl ?_ (AK.bw rfl ?_)
  .simp;omega
  .simp[cG,c]
 .by_cases b:8<n
  .refine aX [(5,af),(8,ab)] rfl ?_ (AK.bw rfl ?_)
   .simp;omega
   .simp[cG,b]
  .refine aX [(5,af),(8,af)] rfl ?_ ?_
   .simp;omega
   have d:cG n=2∨cG n=4∨cG n=8:=by unfold cG;grind
   refine AK.wI (λi:Nat=>(i=2∨i=4∨i=8)/\i<=cG n) (λi:Nat=>[(0,dI n),(3,dI i)]) (λ_=>[]) (λi=>8-i) 2 rfl (by simp) ⟨by simp,by omega⟩ rfl ?_;rintro i ⟨hi,a⟩;by_cases h:i<n
   .refine aX [(12,ab)] rfl ?_ (AK.again (2*i) rfl ?_ ?_ ?_ rfl)
    .simp[bA];omega
    .simp;omega
    .unfold cG at a⊢;grind
    .omega
   .refine aX [(12,af)] rfl (by simp;omega) (AK.leave rfl rfl ?_);refine bt rfl ay (AK.bw rfl ?_);have:i=cG n:=by unfold cG at a⊢;grind
    simp[this]
theorem Ep(s:Bs)(b:UInt8):strip (s++[b])=if b=46 then strip s else s++[b]:=by unfold strip;grind[List.dropWhile_cons]
def w6{s:Bs}{n:Nat}(h:n<s.length):strip (s.take (n+1))=if s.getD n 0=46 then strip (s.take n)else s.take (n+1):=by grind[List.take_add_one,Ep]
theorem Cj(s:Bs):Ev X 215 [dS s,dU 46] [] (dS (strip s)) []:=by
 refine Ev.bQ Tryz.func215 rfl λj=>?_;have h:=j.str 0 rfl;refine bt rfl ay ?_;refine AK.wI (λn=>n<=s.length/\strip (s.take n)=strip s) (λn:Nat=>[(0,dS (s.take n)),(1,dU 46)]) (λ_=>[]) (λn=>n) s.length rfl (by simp) ⟨by omega,by simp⟩ rfl ?_;rintro n ⟨k,a⟩;cases n with
 |zero =>
  refine aX [(7,af),(16,af)] rfl ?_ (AK.leave rfl rfl ?_)
  .simp
  refine bt rfl ay (AK.bw rfl ?_);have:strip s=[]:=by rw[<-a];rfl
  simp[this]
 |succ n =>
  have g:(s.take (n+1)).length=n+1:=by grind
  have f:cK (s.take (n+1)) n=cK s n:=by simp[cK,ar,iL]
  have i:=w6 (s:=s) (n:=n) (by omega);have b:((n:Int)+1-1).toNat=n:=by omega
  by_cases d:s.getD n 0=46
  .refine aX [(7,ab),(15,ab),(16,ab)] rfl ?_ (AK.again n rfl ?_ ?_ ?_ rfl)
   .have c:cK s n=46:=by unfold cK;rw[d];rfl
    simp[-ar,-List.length_take,g,cM,b,f,c,bA];omega
   .simp;show(s.take (n+1)).take _=_;grind
   .grind
   .omega
  .refine aX [(7,ab),(15,af),(16,af)] rfl ?_ (AK.leave rfl rfl ?_)
   .have c:cK s n≠46:=by unfold cK;intro e;exact d (n7.1 (by grind))
    simp[-ar,-List.length_take,g,cM,b,f,c,bA];omega
   refine bt rfl ay (AK.bw rfl ?_);rw[i,aZ d]at a;simp[a]
def Vm:dr:=λargs σ=>match args,σ with
 |[.e (.one (.c (.str s))),.e (.one (.c (.int .u8 46)))],[]=>aa (dS (strip s),[],[])
 |_,_=>ae
def t215:ee X 215 Vm:=by intro args σ res σ' obs h _;unfold Vm at h;grind[Cj]
theorem Oj(s:Bs):Ev X 181 [dS s,dS [46]] [] (dS (strip s)) []:=by
 refine Ev.bQ Tryz.func181 rfl λb=>?_;by_cases h:s=[]
 .subst h;refine aW (bE.cons t215 .nil) [(8,ab),(12,ab)] rfl ?_ (AK.bw rfl ?_)
  .simp
  .simp[strip]
 .refine aW (bE.cons t215 .nil) [(8,af),(11,af),(12,af),(16,ab),(20,ab),(21,ab)] rfl ?_ (AK.bw rfl)
  .cases s with
   |nil=>grind
   |cons a r=>simp;decide
def R5:dr:=λargs σ=>match args,σ with
 |[.e (.one (.c (.str s))),.e (.one (.c (.str [46])))],[]=>aa (dS (strip s),[],[])
 |_,_=>ae
def t181:ee X 181 R5:=by intro args σ res σ' obs h _;unfold R5 at h;grind[Oj]
def ur{p:Bs}{i:Nat}(h:i<p.length):codeOf (p.take (i+1))=27*codeOf (p.take i)+(cK p i-97) % 256+1:=by unfold codeOf;rw[ld,br h];simp only[List.foldl_append,Option.toList_some,lh,List.foldl_nil,cK,ar,br h,im]
def jR{p:Bs}(h:bx p=ab){i:Nat}(hi:i<=p.length):0<=codeOf (p.take i)/\codeOf (p.take i)<282429536481:=by simp only[bx,bR,ba]at h;obtain⟨c,q2⟩:=w7 (p.take i) 0 1 0 (λb a=>gN h.2 b (fV a)) (by omega) (by omega) (by omega);have:=Qh (n:=(p.take i).length) (by grind);rw[Int.one_mul]at q2;exact⟨c,Int.lt_of_lt_of_le q2 this⟩
def w8{p:Bs}{i:Nat}(h:i<p.length):p.getD i 0∈p:=by grind
abbrev tb2:List (Nat×dr):=[(30,kq aI (λk=>dB (cd k)) λ_=>[]),(129,kq aS (λs=>dB (bx s)) λ_=>[])]
def sX:bE X tb2:=.cons t30 (.cons t129 .nil)
abbrev YS(n:Int):D:=.eX [.one (.c (.int .i64 n)),.one (.c .iw)]
def KA(k:Int)(p:Bs)(hk:cd k=ab)(b:bx p=ab):Ev X 81 [dI k,dS p] [] (YS (en k p)) []:=by
 refine Ev.bQ Tryz.func81 rfl λq=>?_;have a:=b;simp only[bx,bR,ba]at a;have c:=hk;simp only[cd,bR,ba]at c;refine aW sX [(8,af),(13,af)] rfl (by simp[hk,b]) ?_;refine AK.wI (λi=>i<=p.length) (λi:Nat=>[(0,dI k),(1,dS p),(6,dI (codeOf (p.take i))),(19,dI p.length),(20,dI i)]) (λ_=>[]) (λi=>p.length-i) 0 rfl (by simp[codeOf]) (by omega) rfl ?_;intro i hi;by_cases h:i<p.length
 .have f:=jR b hi;have o:=jR b (i:=i+1) (by omega);have e:=ur h;refine aX [(21,ab)] rfl ?_ (AK.again (i+1) rfl ?_ ?_ ?_ rfl)
  .simp only[az,cM,bA];simp[-ar,h,cM];have j:=gN a.2 (p.getD i 0) (w8 h);have d:97<=cK p i/\cK p i<=122:=by unfold cK;omega
   omega
  .have j:=gN a.2 (p.getD i 0) (w8 h);have d:97<=cK p i/\cK p i<=122:=by unfold cK;omega
   have g:(cK p i-97) % 256=cK p i-97:=Int.emod_eq_of_lt (by omega) (by omega);rw[g]at e;simp[-ar,cM,e]
  .grind
  grind
 .have e:i=p.length:=by omega
  subst e;have f:=qm b;refine aX [(21,af)] rfl (by simp) (AK.leave rfl rfl ?_);refine bt rfl ?_ (AK.bw rfl ?_)
  .rw[dh];have l:0<=codeOf p*(2*k+1):=Int.mul_nonneg f.1 (by omega);have n:codeOf p*(2*k+1)<=282429536481*199:=Int.mul_le_mul (by omega) (by omega) (by omega) (by omega);generalize codeOf p*(2*k+1)=m at l n;simp only[az,bA];simp;omega
  .rw[dh];refine az.cat.2 ⟨?_,az.cat.2 ⟨rfl,ay⟩⟩;show(_:Int)=_;rw[Int.mul_comm 7919 k];rfl
def t81:ee X 81 (oQ aI aS (λk p=>YS (en k p)) λk p=>[cd k=ab,bx p=ab]):=.sv λk p h=>KA k p h.1 h.2
def Er{P:aq}{o:au}{k:ak->D}{σ:List aP}{op:BinOp}{t ty:aj}{x:ak}(h:o.op=.binOp op t x (.const .nilIface) ty){c:Bool}{q:Array (String×aj)}(m:P.underlying t=aa (.interface q))(p:k x=.e (.one (.c .iw)))(r:k (.const .nilIface)=.e (.one (.c .iw)))(j:ja op ab=aa c):bF P o k σ (.e (.one (.c (.bool c)))) σ:=by
 refine .quiet λs n u l=>?_;have g:=l x;have f:=l (.const .nilIface);rw[p]at g;rw[r]at f;replace g:=eT g;replace f:=eT f;generalize a:n x=vx at g;generalize b:n (.const .nilIface)=vy at f;cases g;cases f;have i:(Op.equal t .nilIface .nilIface).run P s.w=.ok ab s.w:=by show(aY (9999+1) t _ _).run P s.w=_;unfold aY;simp[underlying,m]
 have d:∀es,(Op.equal t .nilIface .nilIface).events P s.w es=es:=λes=>by show(aY (9999+1) t _ _).events P s.w es=es;unfold aY;simp[underlying,m]
 cases op<;>simp only[ja,reduceCtorEq,dm]at j
 .subst j;exact⟨.bool ab,by simp[aw,h,a,b,eqGuard,binOp,i],Rd.bool,by simp[aw,h,a,b,eqGuard,binOp,i,d]⟩
 .subst j;exact⟨.bool af,by simp[aw,h,a,b,eqGuard,binOp,i],Rd.bool,by simp[aw,h,a,b,eqGuard,binOp,i,d]⟩
def HD(k:Int)(p:Bs)(n:Int)(hk:cd k=ab)(a:bx p=ab):Ev X 154 [dI k,dS p,dI n] [] (dB (en k p==n)) []:=by
 refine Ev.bQ Tryz.func154 rfl λb=>?_;refine aW (bE.cons t81 .nil) [(17,ab)] rfl ?_ ?_
 .simp[hk,a]
 refine AK.law (Er rfl Tryz.underlying57 rfl rfl rfl) rfl rfl ?_;refine aW (bE.cons t81 .nil) [(17,ab)] rfl ?_ (AK.bw rfl ?_)
 .rfl
 .rfl
def t154:ee X 154 (Gg aI aS aI (λk p n=>dB (en k p==n)) λk p _=>[cd k=ab,bx p=ab]):=.M6 λk p n h=>HD k p n h.1 h.2
abbrev nB:dr:=kq aS (λp=>dS (eO p)) λ_=>[]
abbrev Aq(r:Option Bs):D:=.eX [.one (.c (.str (r.getD []))),.one (.c (.bool r.isSome))]
def Et(c:ee X 119 nB)(b:Bs):Ev X 153 [dS b] [] (Aq (eQ b)) []:=by
 refine Ev.bQ Tryz.func153 rfl λf=>?_;have e:bE X [(181,R5),(129,kq aS (λs=>dB (bx s)) λ_=>[]),(119,nB)]:=.cons t181 (.cons t129 (.cons c .nil));by_cases a:bx (strip b)=ab
 .by_cases d:eO (strip b)=b
  .refine aW e [(10,af),(15,af)] rfl ?_ (AK.bw rfl ?_)
   .simp[a,d]
   .simp[eQ,a,d]
  .refine aW e [(10,af),(15,ab)] rfl ?_ (AK.bw rfl ?_)
   .simp[a,d]
   .simp[eQ,a,d]
 .refine aW e [(10,ab),(15,ab)] rfl ?_ (AK.bw rfl ?_)
  .simp[a]
  .simp[eQ,a]
def Vn(a:ee X 119 nB):ee X 153 (kq aS (λb=>Aq (eQ b)) λ_=>[]):=.px λb _=>Et a b
def w9{b p:Bs}(h:eQ b=aa p):bx p=ab:=by unfold eQ at h;grind
abbrev YT(x:bo):D:=TP.enc x
def KB(c:ee X 119 nB)(x:bo)(k:Int)(hk:cd k=ab):Ev X 137 [YT x,dI k] [] (Aq (chunk k x)) []:=by
 refine Ev.bQ Tryz.func137 rfl λg=>?_;have e:bE X [(153,kq aS (λb=>Aq (eQ b)) λ_=>[]),(154,Gg aI aS aI (λk p n=>dB (en k p==n)) λk p _=>[cd k=ab,bx p=ab])]:=.cons (Vn c) (.cons t154 .nil);cases a:eQ x.2 with
 |none =>
  refine aW e [(16,ab),(23,ab)] rfl ?_ (AK.bw rfl ?_)
  .simp[a]
  .simp[chunk,a]
 |some p =>
  have f:=w9 a;by_cases d:en k p=x.1
  .refine aW e [(16,af),(23,af)] rfl ?_ (AK.bw rfl ?_)
   .simp[a,d,hk,f]
   .simp[chunk,a,d,hk]
  .refine aW e [(16,af),(23,ab)] rfl ?_ (AK.bw rfl ?_)
   .simp[a,d,hk,f]
   .simp[chunk,a,d,hk]
def KC(a:ee X 119 nB):ee X 137 (oQ TP aI (λx k=>Aq (chunk k x)) λ_ k=>[cd k=ab]):=.sv λx k h=>KB a x k h
def R7(x:bo)(n:Int):Ev X 225 [YT x,.e (.one (.c (.rp [.int .i64 n])))] [] (dB (x.1==n)) []:=by refine Ev.bQ Tryz.func225 rfl λa=>?_;exact bt rfl ay (AK.bw rfl)
def R8:dr:=λargs σ=>match args,σ with
 |[.e (.agg [.c (.int .i64 a0),.c (.str a1)]),.e (.one (.c (.rp [.int .i64 n])))],[]=>aa (dB (a0==n),[],[a1=a1])
 |_,_=>ae
def t225:ee X 225 R8:=by
 intro args σ res σ' obs h c;unfold R8 at h;split at h
 .rename_i b a n;cases h;exact R7 (b,a) n
 grind
abbrev KD(n:Int):D:=.e (.one (.c (.fn (.func 225) [] [.rp [.int .i64 n]])))
def Ar(l:List bo)(n:Int):Int:=match l.findIdx? (λx=>x.1==n)with|some i=>i|none=>-1
def Ol{t:List bo}{n:Int}{i:Nat}(hi:i<t.length)(h:(t.getD i (0,[])).1=n)(a:∀j,j<i->(t.getD j (0,[])).1≠n):Ar t n=i:=by
 have:t.findIdx? (λf=>f.1==n)=aa i:=by
  rw[vF];refine⟨hi,?_,λj b=>?_⟩
  .grind
  grind
 rw[Ar,this]
def HE{t:List bo}{n:Int}(a:∀j,j<t.length->(t.getD j (0,[])).1≠n):Ar t n=-1:=by
 have:t.findIdx? (λf=>f.1==n)=ae:=by grind[List.getElem_of_mem]
 rw[Ar,this]
def Om(t:List bo)(n:Int):Ev X 224 [dN.sl t,KD n] [] (dI (Ar t n)) []:=by
 refine Ev.bQ Tryz.func224 rfl λe=>?_;have c:=e.sl 0 rfl;have b:bE X [(225,R8)]:=.cons t225 .nil;refine cf b rfl ay ?_;refine AK.j1 (λi=>i<=t.length/\∀j,j<i->(t.getD j (0,[])).1≠n) (λi:Nat=>[(0,dN.sl t),(1,KD n),(7,dI t.length),(8,dI i)]) (λ_=>[]) (λi=>t.length-i) 0 rfl ?_ rfl ay ⟨by omega,by omega⟩ ?_
 .simp
 rintro i ⟨hi,a⟩;by_cases h:i<t.length
 .by_cases d:(t.getD i (0,[])).1=n
  .refine aW b [(9,ab),(16,ab)] rfl ?_ (AK.iC (cp.zero rfl ?_))
   .simp only[az,b9];grind
   .simp[Ol h d a]
  .refine aW b [(9,ab),(16,af)] rfl ?_ (AK.gd (i+1) rfl ?_ rfl ay ?_ ?_)
   .simp only[az,b9];exact⟨by simp only[bA];omega,ay,eD.2 d,by omega,by omega,c8 (by omega)⟩
   .simp
   .grind
   .omega
 .refine aW b [(9,af)] rfl (by simp;omega) (AK.leave rfl rfl ?_);refine cf b rfl ay (AK.bw rfl ?_);simp[HE (λj f=>a j (by omega))]
def R9:dr:=λargs σ=>match args,σ with
 |[d,.e (.one (.c (.fn (.func 225) [] [.rp [.int .i64 n]])))],[]=>match kX 2 d with
  |none=>ae
  |some (m,es)=>aa (dI (Ar (dN.list m es) n),[],[dN.fits m es])
 |_,_=>ae
def t224:ee X 224 R9:=by
 intro args σ res σ' obs h a;unfold R9 at h;split at h
 .rename_i d n;split at h
  .cases h
  rename_i m es hd;cases h;exact(Om _ n).args (λ_ vs=>cg.imp (λ_=>dN.jS hd a) (cg.imp (λ_ r=>r) (λ_ r=>r)) vs)
 grind
def Eu(t:List bo)(n:Int):(Ar t n=-1/\t.find? (λx=>x.1==n)=ae)∨∃i:Nat,i<t.length/\Ar t n=i/\t.find? (λx=>x.1==n)=aa (t.getD i (0,[])):=by unfold Ar;grind[List.findIdx?_eq_some_iff_getElem,List.find?_eq_some_iff_getElem]
def Ew(a:ee X 119 nB)(k:Int)(p:bG)(n:Int)(hk:cd k=ab):Ev X 201 [dI k,KE p,dI n] [] (Aq (ei k p n)) []:=by
 refine Ev.bQ Tryz.func201 rfl λg=>?_;have f:bE X [(224,R9),(137,oQ TP aI (λx k=>Aq (chunk k x)) λ_ k=>[cd k=ab])]:=.cons t224 (.cons (KC a) .nil);have c:dN.list p.2.length (dN.fn p.2)=p.2:=dN.list_fn _;refine qz [] 7 rfl ay ?_;refine AK.freeze 5 1 rfl rfl rfl ?_;rcases Eu p.2 n with⟨b,d⟩|⟨i,hi,b,d⟩
 .refine aW f [(14,ab)] rfl ?_ (AK.bw rfl ?_)
  .simp only[az,c,b];exact⟨rfl,dN.aU _⟩
  .simp[ei,d]
 .refine aW f [(14,af)] rfl ?_ (AK.bw rfl ?_)
  .simp only[az,c,b];exact⟨hk,by omega,by omega,iN (by omega),dN.aU _⟩
  .have e:ei k p n=chunk k (p.2.getD i (0,[])):=by simp only[ei,d]
   rw[e,c,b];simp only[b9];exact az.cat.2 ⟨rfl,az.cat.2 ⟨rfl,ay⟩⟩
def Sa(a:ee X 119 nB):ee X 201 (Gg aI (Ex dN) aI (λk p n=>Aq (ei k p n)) λk _ _=>[cd k=ab]):=.M6 λk p n h=>Ew a k p n h
abbrev dQ(n:Int):D:=.e (.one (.c (.int .u64 n)))
def _root_.Go.AM.AW.Gh{P:aq}{X:Cx P}{N:Nat}{Q:Post}{φ:Fr}{σ:List aP}{x y:Code}(h:AW X N y Q φ σ):AW X N (.cond (.const (.bool af)) x y) Q φ σ:=by intro s a f hh b k cs S j c;refine .ctl hh rfl (λ_=>vc (t:=af) rfl) λg h1=>?_;exact h g a (f.rely h1 hh) (hh.rely h1) b k cs S j λe φ' σ' s' a' q i d st=>c e φ' σ' s' a' q i d (h1.stepW.trans st)
def _root_.Go.AM.AK.Gh{P:aq}{X:Cx P}{N:Nat}{Qf:Post}{K:List It}{φ:Fr}{σ:List aP}{x y:Code}(h:AK X N Qf (.code y::K) .normal φ σ):AK X N Qf (.code (.cond (.const (.bool af)) x y)::K) .normal φ σ:=AW.Gh h
def En{P:aq}{o:au}{n:ak->D}{σ:List aP}{op:BinOp}{t ty:aj}{x y:ak}{k m:IntKind}{a b:Int}(c:Int)(h:o.op=.binOp op t x y ty)(u:n x=.e (.one (.c (.int k a))))(v:n y=.e (.one (.c (.int m b))))(l:bA k c)(d:∀w,(binOp op t (.int k a) (.int m b)).run P w=.ok (.int k c) w)(p:∀w,(binOp op t (.int k a) (.int m b)).events P w #[]=#[]):
  bF P o n σ (.e (.one (.c (.int k c)))) σ:=by refine .quiet λs r z q=>?_;have j:=q x;have i:=q y;rw[u]at j;rw[v]at i;replace j:=eT j;replace i:=eT i;generalize f:r x=vx at j;generalize g:r y=vy at i;cases j;cases i;exact⟨.int k c,by simp only[aw,h,bL,f,g,gM,bU,d,dn],.int l,by simp[aw,h,f,g,gM,jG,d,p]⟩
def Ez:Ev X 212 [dQ 1,dQ 2] [] (.eX [.one (.c (.int .u64 0)),.one (.c (.int .u64 2))]) []:=by refine Ev.bQ Tryz.func212 rfl λa=>?_;exact dc rfl (by simp[bA]) (AK.bw rfl)
def EA:Ev X 212 [dQ 1,dQ 3] [] (.eX [.one (.c (.int .u64 0)),.one (.c (.int .u64 3))]) []:=by refine Ev.bQ Tryz.func212 rfl λa=>?_;exact dc rfl (by simp[bA]) (AK.bw rfl)
def Vo:dr:=λargs σ=>match args,σ with
 |[.e (.one (.c (.int .u64 1))),.e (.one (.c (.int .u64 c)))],[]=>aa (.eX [.one (.c (.int .u64 0)),.one (.c (.int .u64 c))],[],[c=2∨c=3])
 |_,_=>ae
def t212:ee X 212 Vo:=by
 intro args σ res σ' obs h a;unfold Vo at h;split at h
 .cases h;rcases a with rfl|rfl
  .exact Ez
  .exact EA
 grind
def Sc(c:Int)(a:c=2∨c=3):Ev X 174 [dQ 1,dQ c] [] (.eX [.one (.c (.int .u64 0)),.one (.c (.int .u64 c))]) []:=by
 refine Ev.bQ Tryz.func174 rfl λb=>?_;refine cf (bE.cons t212 .nil) rfl ay ?_;refine AK.Gh ?_;refine cf (bE.cons t212 .nil) rfl ?_ (AK.bw rfl)
 .simp[a]
def R4:dr:=λargs σ=>match args,σ with
 |[.e (.one (.c (.int .u64 1))),.e (.one (.c (.int .u64 c)))],[]=>aa (.eX [.one (.c (.int .u64 0)),.one (.c (.int .u64 c))],[],[c=2∨c=3])
 |_,_=>ae
def t174:ee X 174 R4:=by
 intro args σ res σ' obs h a;unfold R4 at h;split at h
 .cases h;exact Sc _ a
 grind
def lN:∀(l:List UInt8)(c:UInt8),Lib.indexByte l c<l.length∨Lib.indexByte l c=-1
 |[],c=>.inr (by rw[Lib.indexByte.eq_def])
 |b::l,c=>by have a:=lN l c;grind[Lib.indexByte.eq_def]
set_option maxRecDepth 20000 in
theorem AZ(s:Bs)(c:UInt8):Ev X 207 [dS s,dU c.toNat] [] (dI (Lib.indexByte s c)) []:=by
 refine Ev.bQ Tryz.func207 rfl λq=>?_;have A:=q.str 0 rfl;refine bt rfl ay ?_;refine AK.one (x:=dI (Lib.indexByte s c)) (σ':=[]) ?_ rfl ?_
 .refine OA.kQ (λ_ _ _ _=>dC (by rfl)) ?_;refine bF.od λst ρ z k=>?_;have p:=eT (k (.tmp 5));have o:=eT (k (.tmp 6));generalize j:ρ (.tmp 5)=v1 at p;generalize g:ρ (.tmp 6)=v2 at o;cases p with
  |str e1 l1 =>
  cases o with
  |int l2 =>
  have i:ρ (.func 227)=.func (.func 227) #[] #[]:=by
   have:=eT (k (.func 227));generalize ρ (.func 227)=v at this;cases this with
   |fn fs cs a b y B c1 c2 d1 d2 =>
    grind
  have f:(callFunc 227 #[.string ‹ByteArray›,.int .u8 c.toNat]).run ag st.w=.ok (.value (.int .i64 (Lib.indexByte s c))) st.w:=by rw[run_callFunc_extern Tryz.func227 (by kernel_rfl) (by kernel_rfl) (by kernel_rfl) (e:=Extern.BytealgIndexByte.indexByte) (by kernel_rfl),Lib.run_indexByteString];subst e1;simp
  have l:cZ ag (Extern.BytealgIndexByte.indexByte #[.string ‹ByteArray›,.int .u8 c.toNat]):=by
   refine cZ.bind (m:=Extern.Bytes.bytesOf (.string ‹ByteArray›)) (λ_ _=>rfl) λb=>cZ.bind (m:=Extern.Bytes.asByte (.int .u8 c.toNat)) (λ_ _=>?_) λd=>?_
   .simp[Extern.Bytes.asByte]
   .skip
    split<;>exact .pure
  have h:=lY Tryz.func227 (by kernel_rfl) (by kernel_rfl) (by kernel_rfl) (e:=Extern.BytealgIndexByte.indexByte) (by kernel_rfl) _ l st.w #[];refine⟨.int .i64 (Lib.indexByte s c),?_,Rd.int ?_,?_⟩
  rotate_left 2
  .intro t n;simp[aw,resolve,Deferred.ofValue,invoke,j,g,i,h]at n;subst n;exact .inr ⟨_,rfl⟩
  .simp[aw,resolve,Deferred.ofValue,invoke,j,g,i,f]
  .have u:=Lib.indexByte_ge s c;have r:=lN s c;simp only[bA];omega
 .exact bt rfl ay (AK.bw rfl)
def Gz(b:Nat->Int):Nat->List C:=λi=>[.int .u8 (b i)]
def Bytes(b:Nat->Int):Prop:=∀i,0<=b i/\b i<=255
abbrev kZ(m:Nat)(b:Nat->Int)(k:Int):aP:=.cells 90 [.c (.sl af 1 m (Gz b)),.c (.int .i64 k)]
def eb.qI{ι:Type}{f:aJ}{fn:Func}{c:Code}{args:List D}{σ:List aP}{σ':ι->List aP}{res:ι->D}(i:Tryz.prog.funcs[f]?=aa fn)(a:(fn.name== "runtime.NumGoroutine")=af)(g:fn.body=aa c)(b:bu args.length fn.ntmps=ab)(h:Fits args σ->AK X fn.ntmps (λe φ σ1=>∃j,cp fn σ.length (res j) (σ' j) e φ σ1) [.code c] .normal (iY 0 args) σ):eb X f args σ res σ' :=
 eb.D6 i a g b λd=>AW.top (AK.of_code (h d))
def AK.nI{ι:Type}{fn:Func}{a:Nat}{res:ι->D}{σ':ι->List aP}{N:Nat}{φ:Fr}{σ:List aP}{K:List It}(i:ι)(k:AK X N (cp fn a (res i) (σ' i)) K .normal φ σ):AK X N (λe φ σ1=>∃j,cp fn a (res j) (σ' j) e φ σ1) K .normal φ σ :=
 AK.iI (λ_ _ _ q=>⟨i,q⟩) k
def md(m:Nat)(b:Nat->Int)(k:Nat)(n:Int):Int :=
 if m=0 then 0 else if k<m then b k % n else
  ((b ((k:Int) % m).toNat*131+b (((k:Int)*7+3) % m).toNat*1117+k*29+(k:Int) / m*53).toNat ^^^ ((b ((k:Int) % m).toNat*131+b (((k:Int)*7+3) % m).toNat*1117+k*29+(k:Int) / m*53) / 64).toNat:Nat) % n
set_option maxRecDepth 20000 in
def CZ(m:Nat)(b:Nat->Int)(d:Bytes b)(k:Nat)(n:Int)(hk:k<=4000000)(r:m<=1048576)(y:1<=n/\n<=4000000):
  Ev X 17 [.e (.one (.ptr 0 0)),dI n] [kZ m b k] (dI (md m b k n)) [kZ m b (k+1)]:=by
 refine Ev.bQ Tryz.func17 rfl λh=>?_;have g:∀j,j<([kZ m b k]:List aP).length->([0]:List Nat)[j]?=aa j:=λj x=>by grind
 by_cases c:m=0
 .subst c;refine aX [(17,af),(24,ab)] rfl ?_ (AK.db [0] rfl ?_ rfl rfl rfl g)
  .simp[bA];omega
  .simp[md]
 have f:((k:Int)+1-1)=k:=by omega
 have l:((k:Int)+1-1).toNat=k:=by omega
 have i:=d k;by_cases z:(k:Int)<m
 .refine aX [(17,af),(24,af),(36,ab)] rfl ?_ (AK.db [0] rfl ?_ rfl rfl rfl g)
  .simp only[az,f,b9,ba,bO,eD,bA];omega
  .have:k<m:=by omega
   simp[md,c,this]
 .refine bJ [(17,af),(24,af),(36,af)] rfl ?_ (AK.db [0] rfl ?_ rfl rfl rfl g)
  .simp only[az,f,bO,eD,bA];have a:(0:Int)<m:=by omega
   have p:=pR (k:Int) (by omega:(m:Int)≠0);have o:=pO (k:Int) a;have v1:=pR ((k:Int)*7+3) (by omega:(m:Int)≠0);have t:=pO ((k:Int)*7+3) a;have w1:0<=(k:Int) / m:=Int.ediv_nonneg (by omega) (by omega);have w2:(k:Int) / m<=k:=Int.ediv_le_self _ (by omega);generalize(k:Int) % m=u at *;generalize((k:Int)*7+3) % m=v at *;generalize(k:Int) / m=w at *;have s:=d u.toNat;have q:=d v.toNat;grind
  .have:¬k<m:=by omega
   simp[md,c,this,f]
def uz(m:Nat)(b:Nat->Int)(k:Nat)(n:Int)(a:1<=n):0<=md m b k n/\md m b k n<n:=by
 unfold md;split
 .omega
 .split
  .exact⟨pR _ (by omega),pO _ (by omega)⟩
  .exact⟨pR _ (by omega),pO _ (by omega)⟩
def gv(m:Nat)(b:Nat->Int)(c:Bytes b)(k:Nat)(n:Int)(hk:k<=4000000)(d:m<=1048576)(a:1<=n/\n<=4000000):
  eb (ι:={v:Int // 0<=v/\v<n}) X 17 [.e (.one (.ptr 0 0)),dI n] [kZ m b k] (λv=>dI v.1) (λ_=>[kZ m b (k+1)]):=by have h:=CZ (X:=X) m b c k n hk d a;exact⟨h.1,λs vs hr hh S cs hS=>h.2 s vs hr hh S cs (hS ⟨_,uz m b k n a.1⟩)⟩
def S6(es:Nat->List C):Nat->Int:=λi=>xc (es i) 0
def Zs:dr:=λargs σ=>match args,σ with
 |[.e (.one (.ptr 0 0)),.e (.one (.c (.int .i64 n)))],[.cells 90 [.c (.sl af 1 m es),.c (.int .i64 k)]] =>
  aa (dI (md m (S6 es) k.toNat n),[kZ m (S6 es) (k+1)],[k=k.toNat,es=Gz (S6 es),Bytes (S6 es),k<=4000000,m<=1048576,1<=n,n<=4000000])
 |_,_=>ae
def t17:ee X 17 Zs:=by
 intro args σ res σ' obs h c;unfold Zs at h;split at h
 .rename_i n m es k;cases h;obtain⟨i,g,e,f,a,b,d⟩:=c;have:=CZ (X:=X) m (S6 es) e k.toNat n (by omega) a ⟨b,d⟩;grind
 grind
def AY:∀j,j<1->([0]:List Nat)[j]?=aa j:=λj a=>by grind
set_option maxRecDepth 20000 in
def LK(m:Nat)(b:Nat->Int)(d:Bytes b)(k:Nat)(hk:k<=4000000)(f:m<=1048576)(l:List Bs)(g:1<=l.length/\l.length<=1000):
  eb (ι:={p:Bs // p∈l}) X 89 [.e (.one (.ptr 0 0)),cS.sl l] [kZ m b k] (λp=>dS p.1) (λ_=>[kZ m b (k+1)]):=by
 refine eb.qI Tryz.func89 rfl rfl rfl λc=>?_;refine bt rfl ay ?_;refine AK.cP (gv m b d k l.length hk f (by omega)) [0] rfl (λ_=>rfl) ?_;rintro⟨v,v0,v1⟩;refine bt rfl ?_ ?_
 .simp;omega
 have a:l.getD v.toNat cS.bZ∈l:=by grind
 refine AK.nI ⟨l.getD v.toNat cS.bZ,a⟩ (AK.db [0] rfl ?_ rfl rfl rfl AY);simp
def LL:List Bs:=[[],[102],[97,47],[97,98],[97,47,98,47,99],[47,97]]
def LM:List Bs:=[[97],[98],[99,47,97],[99,47,98],[100,47,97],[101],[97,47,98],[100]]
set_option maxRecDepth 20000 in
def vC(m:Nat)(b:Nat->Int)(c:Bytes b)(k:Nat)(hk:k<=100000)(d:m<=1048576):
  eb (ι:={p:Bs // p.length<=8}) X 43 [.e (.one (.ptr 0 0))] [kZ m b k] (λp=>dS p.1) (λ_=>[kZ m b (k+1+1)]):=by
 refine eb.qI Tryz.func43 rfl rfl rfl λf=>?_;refine bt rfl ay ?_;refine AK.cP (gv m b c k 40 (by omega) d (by omega)) [0] rfl (λ_=>rfl) ?_;rintro⟨v,v0,v1⟩;by_cases h:v=0
 .refine aX [(5,ab)] rfl ?_ ?_
  .simp[h]
  have:=LK (X:=X) m b c (k+1) (by omega) d LL (by decide);refine AK.jK this [0] rfl rfl rfl rfl ?_ rfl rfl rfl (λ_=>rfl) rfl (λ_=>rfl) rfl ?_
  .refine⟨rfl,λi hi=>?_⟩;rcases i with _|_|_|_|_|_|i<;>first|rfl|omega
  rintro⟨p,a⟩;refine bt rfl ay (AK.nI ⟨p,(by decide:∀p∈LL,p.length<=8) p a⟩ (AK.db [0] rfl ?_ rfl rfl rfl AY));simp
 .refine aX [(5,af)] rfl ?_ ?_
  .simp[h]
  have:=LK (X:=X) m b c (k+1) (by omega) d LM (by decide);refine AK.jK this [0] rfl rfl rfl rfl ?_ rfl rfl rfl (λ_=>rfl) rfl (λ_=>rfl) rfl ?_
  .refine⟨rfl,λi hi=>?_⟩;rcases i with _|_|_|_|_|_|_|_|i<;>first|rfl|omega
  rintro⟨p,a⟩;refine bt rfl ay (AK.nI ⟨p,(by decide:∀p∈LM,p.length<=8) p a⟩ (AK.db [0] rfl ?_ rfl rfl rfl AY));simp
def words:List Bs:=[[97,98,99],[104,101,108,108,111],[119,111,114,108,100],[97,97,97,97],[107,101,101,112],[122,122],[98,97,99,107,117,112],[113]]
abbrev Wd(k:Nat):={q:Bs×Nat // q.1.length<=100000/\k<=q.2/\q.2<=k+60}
def GM(s:Bs)(n:Int)(c:s.length<=10)(j:0<=n/\n<=100):eb (ι:={p:Bs // p.length<=100000}) X 90 [dS s,dI n] [] (λp=>dS p.1) (λ_=>[]):=by
 refine eb.qI Tryz.func90 rfl rfl rfl λa=>?_;refine bt rfl ay ?_;refine AK.j1 (λx:Nat×Bs×Bs=>x.1<=100/\x.2.2.length+x.2.1.length*x.1<=1010) (λx=>[(0,dS x.2.1),(1,dI x.1),(5,dS x.2.2)]) (λ_=>[]) (λx=>x.1) (n.toNat,s,[]) rfl ?_ rfl ay ⟨by grind,?_⟩ ?_
 .simp;omega
 .have:s.length*n.toNat<=10*100:=Nat.mul_le_mul c (by omega);grind
 rintro⟨k,t,out⟩ ⟨d,f⟩;simp only at d f;by_cases hk:0<k
 .have g:t.length<=t.length*k:=uW _ hk;have h:((k:Int) / 2)=((k / 2:Nat):Int):=by omega
  by_cases i:k % 2=1
  .have b:(t++t).length*(k / 2)+t.length=t.length*k:=by
    have e:k=2*(k / 2)+1:=by omega
    grind
   refine aX [(7,ab),(10,ab)] rfl ?_ (AK.gd (k / 2,t++t,out++t) rfl ?_ rfl ay ?_ ?_)
   .simp[hk];omega
   .simp
   .grind
   grind
  .have b:(t++t).length*(k / 2)=t.length*k:=by
    have e:k=2*(k / 2):=by omega
    grind
   refine aX [(7,ab),(10,af)] rfl ?_ (AK.gd (k / 2,t++t,out) rfl ?_ rfl ay ?_ ?_)
   .simp[hk];omega
   .simp
   .grind
   grind
 .obtain rfl:k=0:=by omega
  refine aX [(7,af)] rfl (by simp) (AK.leave rfl rfl ?_);exact bt rfl ay (AK.nI ⟨out,by omega⟩ (AK.bw rfl))
set_option maxRecDepth 20000 in
def GN(m:Nat)(b:Nat->Int)(c:Bytes b)(k:Nat)(hk:k<=100000)(d:m<=1048576):
  eb (ι:=Wd k) X 44 [.e (.one (.ptr 0 0))] [kZ m b k] (λq=>dS q.1.1) (λq=>[kZ m b q.1.2]):=by
 refine eb.qI Tryz.func44 rfl rfl rfl λG=>?_;refine bt rfl ay ?_;refine AK.cP (gv m b c k 5 (by omega) d (by omega)) [0] rfl (λ_=>rfl) ?_;rintro⟨v,v0,v1⟩;refine bt rfl ay ?_;refine AK.cz 1 (λs:Nat×Bs×Nat=>s.1<=4/\s.2.1.length+6*s.1<=24/\k<=s.2.2/\s.2.2+s.1<=k+5) (λs=>[(0,.e (.one (.ptr 0 0))),(4,dI s.1),(3,dS s.2.1)]) (λs=>[kZ m b s.2.2]) (λs=>s.1) (v.toNat,[],k+1) rfl ?_ rfl ?_ rfl ⟨by omega,by grind,by simp,by grind⟩ ?_
 .simp;omega
 .simp
 rintro⟨n,s,k1⟩ ⟨H,r,F,C⟩;simp only at H r F C;by_cases j:0<n
 .refine aX [(9,ab)] rfl ?_ ?_
  .simp[j]
  have:=LK (X:=X) m b c k1 (by omega) d words (by decide);refine AK.jK this [0] rfl rfl rfl rfl ?_ rfl rfl rfl (λ_=>rfl) rfl (λ_=>rfl) rfl ?_
  .refine⟨rfl,λi hi=>?_⟩;rcases i with _|_|_|_|_|_|_|_|i<;>first|rfl|omega
  rintro⟨p,g⟩;have B:p.length<=6:=(by decide:∀p∈words,p.length<=6) p g;refine bt rfl ?_ (AK.aQ (n-1,s++p,k1+1) rfl ?_ ?_ ?_ ?_)
  .simp[bA];omega
  .simp;omega
  .simp
  .grind
  grind
 .obtain rfl:n=0:=by omega
  refine aX [(9,af)] rfl (by simp) (AK.leaveD rfl rfl ?_);refine bt rfl ay ?_;refine AK.cP (gv m b c k1 4 (by omega) d (by omega)) [0] rfl (λ_=>rfl) ?_;rintro⟨u,K,L⟩;by_cases l:u=0
  .refine aX [(19,ab)] rfl (by simp[l]) ?_;refine AK.cP (gv m b c (k1+1) 12 (by omega) d (by omega)) [0] rfl (λ_=>rfl) ?_;rintro⟨w,w0,w1⟩;refine bt rfl ay ?_;refine AK.cz 1 (λs:Nat×Bs×Nat=>s.1<=11/\s.2.1.length+s.1<=36/\k<=s.2.2/\s.2.2+s.1<=k+20) (λs=>[(0,.e (.one (.ptr 0 0))),(5,dI s.1),(3,dS s.2.1)]) (λs=>[kZ m b s.2.2]) (λs=>s.1) (w.toNat,s,k1+2) rfl ?_ rfl ?_ rfl ⟨by omega,by grind,by grind,by grind⟩ ?_
   .simp;omega
   .simp;omega
   rintro⟨n,s2,f⟩ ⟨A,D,t,E⟩;simp only at A D t E;by_cases j:0<n
   .refine aX [(23,ab)] rfl ?_ ?_
    .simp[j]
    refine AK.cP (gv m b c f 26 (by omega) d (by omega)) [0] rfl (λ_=>rfl) ?_;rintro⟨x,J,I⟩;refine bt rfl ?_ (AK.aQ (n-1,s2++[UInt8.ofNat (97+x).toNat],f+1) rfl ?_ ?_ ?_ ?_)
    .simp[bA];omega
    .simp;omega
    .simp
    .grind
    grind
   .obtain rfl:n=0:=by omega
    refine aX [(23,af)] rfl (by simp) (AK.leaveD rfl rfl ?_);refine aX [(36,af)] rfl ?_ ?_
    .simp;omega
    refine AK.cP (gv m b c f 60 (by omega) d (by omega)) [0] rfl (λ_=>rfl) ?_;rintro⟨y,z,o⟩;by_cases h:y=0
    .refine aX [(41,ab)] rfl ?_ (AK.nI ⟨(s2++[65],f+1),by grind,by grind,by grind⟩ (AK.db [0] rfl ?_ rfl rfl rfl AY))
     .simp[h];omega
     .simp
    by_cases a:y=1
    .refine aX [(41,af),(45,ab)] rfl ?_ ?_
     .simp[a]
     refine AK.cP (GM [97,98,99,100,101] 9 (by decide) (by decide)) [] rfl (λ_=>rfl) ?_;rintro⟨p,g⟩;refine bt rfl ay (AK.nI ⟨(p,f+1),g,by grind,by grind⟩ (AK.db [0] rfl ?_ rfl rfl rfl AY));simp
    .refine aX [(41,af),(45,af)] rfl ?_ (AK.nI ⟨(s2,f+1),by grind,by grind,by grind⟩ (AK.db [0] rfl ?_ rfl rfl rfl AY))
     .simp[h,a]
     .simp
  .refine qz [(19,af)] 2 rfl (by simp[l]) ?_;refine aX [(36,af)] rfl ?_ ?_
   .simp;omega
   refine AK.cP (gv m b c (k1+1) 60 (by omega) d (by omega)) [0] rfl (λ_=>rfl) ?_;rintro⟨y,z,o⟩;by_cases h:y=0
   .refine aX [(41,ab)] rfl ?_ (AK.nI ⟨(s++[65],(k1+1)+1),by grind,by grind,by grind⟩ (AK.db [0] rfl ?_ rfl rfl rfl AY))
    .simp[h];omega
    .simp
   by_cases a:y=1
   .refine aX [(41,af),(45,ab)] rfl ?_ ?_
    .simp[a]
    refine AK.cP (GM [97,98,99,100,101] 9 (by decide) (by decide)) [] rfl (λ_=>rfl) ?_;rintro⟨p,g⟩;refine bt rfl ay (AK.nI ⟨(p,(k1+1)+1),g,by grind,by grind⟩ (AK.db [0] rfl ?_ rfl rfl rfl AY));simp
   .refine aX [(41,af),(45,af)] rfl ?_ (AK.nI ⟨(s,(k1+1)+1),by grind,by grind,by grind⟩ (AK.db [0] rfl ?_ rfl rfl rfl AY))
    .simp[h,a]
    .simp
def O1(m:Nat)(b:Nat->Int)(f:m<=1048576):eb (ι:={n:Nat // n<=1048576}) X 15 [.e (.one (.c (.sl af 1 m (Gz b))))] [] (λ_=>.e (.one (.ptr 0 0))) (λn=>[kZ n.1 b 0]):=by
 refine eb.qI Tryz.func15 rfl rfl rfl λa=>?_;by_cases h:2000<m
 .refine aX [(5,ab)] rfl ?_ (AK.norm [kZ 2000 b 0] rfl ?_ (AK.nI ⟨2000,by decide⟩ (AK.db [0] rfl ?_ rfl rfl rfl (λj d=>by grind))))
  .simp;omega
  .simp[cv,lZ,c9]
  .simp
 .refine aX [(5,af)] rfl ?_ (AK.nI ⟨m,f⟩ (AK.db [0] rfl ?_ rfl rfl rfl (λj d=>by grind)))
  .simp;omega
  .simp
def Tm:∀j,j<1->([0]:List Nat)[j]?=aa j:=by decide
def uE:∀j,j<2->([0,1]:List Nat)[j]?=aa j:=by decide
def sZ:List bo->List ah
 |[]=>[]
 |x::r=>.int .i64 x.1::Bi x.2::sZ r
def jZ(l:List bo):Prop:=∀x∈l,bA .i64 x.1/\x.2.length<=9223372036854775807
theorem vD:∀l:List bo,(sZ l).length=l.length*2
 |[]=>rfl
 |x::r=>by simp only[sZ,eU,vD r];omega
def Ml:∀{l:List bo}{i:Nat},i<l.length->(sZ l)[i*2]?=aa (.int .i64 (l.getD i (0,[])).1)/\(sZ l)[i*2+1]?=aa (Bi (l.getD i (0,[])).2)
 |[],i,h=>absurd h (fL _)
 |x::r,0,_=>⟨rfl,rfl⟩
 |x::r,i+1,h=>by rw[show(i+1)*2=i*2+1+1 by omega];exact Ml (l:=r) (i:=i) (by grind)
def A8:∀l r:List bo,sZ (l++r)=sZ l++sZ r
 |[],r=>rfl
 |x::l,r=>by simp only[rJ,sZ,A8 l r]
theorem GU:∀(l:List bo)(i:Nat)(y:bo),i<l.length->sZ (l.set i y)=(sZ l).take (i*2)++[.int .i64 y.1,Bi y.2]++(sZ l).drop (i*2+2)
 |[],i,y,h=>absurd h (fL _)
 |x::l,0,y,_=>by simp[sZ]
 |x::l,i+1,y,h=>by rw[List.set_cons_succ,sZ,GU l i y (by grind),sZ,show(i+1)*2=i*2+1+1 by omega,show i*2+1+1+2=(i*2+2)+1+1 by omega];simp
theorem xP{l:List bo}(h:jZ l):gi 2 l.length (dN.fn l) (sZ l):=by
 refine⟨vD l,λi _=>rfl,λi hi j c a=>?_⟩;obtain⟨f,d⟩:=Ml hi;obtain⟨b,q2⟩:=h (l.getD i (0,[])) (by grind);have e:dN.fn l i=[.int .i64 (l.getD i (0,[])).1,.str (l.getD i (0,[])).2]:=rfl;rw[e]at a
 match j,a with
 |0,a=>cases a;exact⟨_,f,λM=>Rd.int b⟩
 |1,a=>cases a;exact⟨_,d,λM=>Rd.str (by grind) q2⟩
abbrev uV(v:ah):D:=.e (.one (.c (.val v)))
abbrev hB(bf:m8)(n:Nat)(l:List bo):aP:=.b8 (fQ 66 2 bf n (sZ l))
abbrev cB(g:Nat)(bf:m8)(n:Nat):aP:=.b8 (dJ g 170 (k9 bf n))
abbrev TY(x:bo):D:=.e (.one (.c (.FJ 66 [.int .i64 x.1,.str x.2])))
abbrev Xs(x:bo):D:=.e (.agg [.c (.int .i64 x.1),.c (.str x.2)])
theorem Tn{x:bo}{vs:List ah}(h:mW vs [.c (.int .i64 x.1),.c (.str x.2)]):vs=[.int .i64 x.1,Bi x.2]:=by
 obtain⟨f,a⟩:=h
 match vs,f with
 |[u,v],_ =>
  obtain⟨i,g,q2⟩:=a 0 _ rfl;obtain⟨v',d,q4⟩:=a 1 _ rfl;cases g;cases d;have e:=q2 λ_ _=>ae;have b:=(str_val (q4 λ_ _=>ae)).1;cases e;rw[b]
def To{o:au}{x y:ak}(h:o.op=.call {callee:=.builtin .append,args:=#[x,y],argTypes:=#[170,170]}):lz ag o x y 66 i66 :=
 ⟨⟨170,170,i170,i170,h,(tok _ _ rfl),rfl,(tok _ _ rfl),rfl⟩,(tok _ _ rfl),by decide,by decide⟩
def A9(bf:m8)(n:Nat)(l:List bo):Ev X 120 [uV (k9 bf n)] [hB bf n l] (dI n) [hB bf n l]:=by refine Ev.bQ Tryz.func120 rfl λa=>?_;refine qz [] 7 rfl ay ?_;refine AK.Nu tok 0 rfl rfl rfl rfl rfl rfl rfl rfl ?_;exact bt rfl ay (AK.db [0] rfl rfl rfl rfl rfl Tm)
def xQ(b cap:Nat){l:List bo}(d:jZ l)(m:Nat){i j:Nat}(hi:i<l.length)(c:j<l.length):Ev X 263 [uV (k9 (.row b cap) l.length),dI i,dI j] [hB (.row b cap) l.length l] (dB (decide ((l.getD i (0,[])).1<(l.getD j (0,[])).1))) [hB (.row b cap) l.length l]:=by
 refine Ev.bQ Tryz.func263 rfl λe=>?_
 have a:=xP d;refine aX [(1000001,ab)] rfl ay ?_;refine AK.calm iZ [uV (k9 (.row b cap) l.length),dI i,uV (.pointer (aa ⟨b,0+(i:Int).toNat*2,ae⟩)),uV (.pointer (aa ⟨b,0+(i:Int).toNat*2+0,ae⟩)),dI (l.getD i (0,[])).1,uV (k9 (.row b cap) l.length),dI j,uV (.pointer (aa ⟨b,0+(j:Int).toNat*2,ae⟩)),uV (.pointer (aa ⟨b,0+(j:Int).toNat*2+0,ae⟩)),dI (l.getD j (0,[])).1,dB (decide ((l.getD i (0,[])).1<(l.getD j (0,[])).1))] 10 rfl rfl rfl rfl rfl ⟨
  OA.cT tok bE.nil rfl,OA.cT tok bE.nil rfl,OA.eval (ds:=[]) tok bE.nil rfl (by simp only[az,aE];omega),OA.cT tok bE.nil rfl,
  OA.kQ (fD rfl) (bF.B7 (l:=0) (i:=i) (f:=0) tok rfl rfl (by simp) rfl a rfl rfl hi),
  OA.cT tok bE.nil rfl,OA.cT tok bE.nil rfl,OA.eval (ds:=[]) tok bE.nil rfl (by simp only[az,aE];omega),OA.cT tok bE.nil rfl,
  OA.kQ (fD rfl) (bF.B7 (l:=0) (i:=j) (f:=0) tok rfl rfl (by simp) rfl a rfl rfl c),
  OA.cT tok bE.nil rfl,ay⟩ ?_
 exact bt rfl ay (AK.db [0] rfl rfl rfl rfl rfl Tm)
def GV{N off n:Nat}{all:List au}{o:au}{φ:Fr}{t:aj}{x y:ak}{b cap i:Nat}{l:List bo}{v:bo}(h:o.op=.store t x y)(g:bD tt t=aa i66)(f:off=i*2)(a:bM φ x=.e (.one (.v (.pointer (aa ⟨b,off,ae⟩)))))(d:km (bM φ y)=aa [.c (.int .i64 v.1),.c (.str v.2)])(j:l.length=n)(hi:i<l.length)(m:o.guard=ae):
  OA X N all o φ [hB (.row b cap) n l] .any [hB (.row b cap) n (l.set i v)]:=by subst f;have p:=dT.zA (N:=N) (σ:=[hB (.row b cap) n l]) tok 0 (E:=66) (k:=2) (n:=n) (b:=b) (cap:=cap) (off:=i*2) (xs:=sZ l) h g a d rfl rfl rfl (by grind[vD]);grind[Tn,GU,OA.wF]
abbrev swS(b cap:Nat)(l:List bo)(i j:Nat)(x y:Bool):List aP:=match x with
 |false=>[hB (.row b cap) l.length l]
 |true=>match y with
  |false=>[hB (.row b cap) l.length (l.set i (l.getD j (0,[])))]
  |true=>[hB (.row b cap) l.length (ml l i j)]
def xR(b cap:Nat){l:List bo}(d:jZ l){i j:Nat}(hi:i<l.length)(e:j<l.length):Ev X 266 [uV (k9 (.row b cap) l.length),dI i,dI j] [hB (.row b cap) l.length l] (.eX []) [hB (.row b cap) l.length (ml l i j)]:=by
 refine Ev.bQ Tryz.func266 rfl λg=>?_;have a:=xP d;refine aX [(1000000,ab)] rfl ay ?_;let xs:Nat->D:=λk=>([uV (k9 (.row b cap) l.length),dI i,uV (k9 (.row b cap) l.length),dI j,uV (k9 (.row b cap) l.length),dI j,uV (.pointer (aa ⟨b,0+(j:Int).toNat*2,ae⟩)),Xs (l.getD j (0,[])),uV (k9 (.row b cap) l.length),dI i,uV (.pointer (aa ⟨b,0+(i:Int).toNat*2,ae⟩)),Xs (l.getD i (0,[])),uV (.pointer (aa ⟨b,0+(i:Int).toNat*2,ae⟩)),.any,uV (.pointer (aa ⟨b,0+(j:Int).toNat*2,ae⟩))]:List D).getD k .any
 refine AK.flags iZ xs (wU (swS b cap l i j) 13 15) rfl rfl rfl rfl ⟨
  .Qb tok bE.nil,.Qb tok bE.nil,.Qb tok bE.nil,.Qb tok bE.nil,.Qb tok bE.nil,.Qb tok bE.nil,
  .U6 tok bE.nil,
  dW.fw rfl rfl rfl rfl (OA.kQ (fD rfl) (bF.B7 (l:=0) (i:=j) (f:=0) tok rfl rfl (by simp) rfl a rfl rfl e)),
  .Qb tok bE.nil,.Qb tok bE.nil,
  .U6 tok bE.nil,
  dW.fw rfl rfl rfl rfl (OA.kQ (fD rfl) (bF.B7 (l:=0) (i:=i) (f:=0) tok rfl rfl (by simp) rfl a rfl rfl hi)),
  .U6 tok bE.nil,
  dW.sA rfl rfl ?_,
  .U6 tok bE.nil,
  dW.sB rfl rfl ?_,ay⟩ ?_
 .exact GV rfl rfl (by simp) rfl rfl rfl hi rfl
 .exact GV rfl rfl (by simp) rfl rfl (by simp) (by grind) rfl
 intro D c;show AK X _ _ _ _ _ (swS b cap l i j (D 13) (D 15));rw[c 13 (by decide),c 15 (by decide)];exact cp.pr [0] rfl ay rfl rfl rfl Tm
def Mm(g:Nat)(bf:m8){l:List bo}(p:jZ l)(r:l.length<=1000){x:bo}(o:x.2.length<=9223372036854775807):
  eb (ι:=m8) X 265 [uV (.pointer (aa ⟨g,0,ae⟩)),TY x] [cB g bf l.length,hB bf l.length l] (λ_=>.eX []) (λa=>[cB g a (l.length+1),hB a (l.length+1) (l++[x])]):=by
 refine eb.qI Tryz.func265 rfl rfl rfl λq=>?_;refine aX [(1000000,ab)] rfl ay ?_;have f:=nh bf l.length;refine AK.J8 (ι:=m8) iZ 7 8 10 (λk=>bu k 6) (λk=>([uV (.pointer (aa ⟨g,0,ae⟩)),uV (.pointer (aa ⟨g,0,ae⟩)),uV (.pointer (aa ⟨g,0,ae⟩)),uV (k9 bf l.length),TY x,Xs x,.e (.one (.c (.sl ab 2 1 λi=>([[.int .i64 x.1,.str x.2]]:List (List C)).getD i [])))]:List D).getD k .any) (λa _=>uV (k9 a (l.length+1))) (λa=>[cB g bf l.length,.b8 (fQ 66 2 a (l.length+1) (sZ l++[.int .i64 x.1,Bi x.2]))])
  rfl rfl rfl rfl rfl rfl rfl (λk h=>by have:=cV h;omega) rfl
  ⟨OA.cT tok bE.nil rfl,OA.cT tok bE.nil rfl,OA.kQ (fD rfl) (bF.B6 rfl rfl),OA.yD tok 0 rfl rfl rfl rfl rfl f rfl,OA.cT tok bE.nil rfl,OA.kQ (fD rfl) (bF.Ai (cs:=[.int .i64 x.1,.str x.2]) tok rfl rfl rfl rfl),OA.cT tok bE.nil rfl,ay,ay,ay,ay⟩
  (λa=>⟨OA.cT tok bE.nil rfl,OA.cT tok bE.nil rfl,OA.kQ (fD rfl) (bF.B6 rfl rfl),OA.yD tok 0 rfl rfl rfl rfl rfl f rfl,OA.cT tok bE.nil rfl,OA.kQ (fD rfl) (bF.Ai (cs:=[.int .i64 x.1,.str x.2]) tok rfl rfl rfl rfl),OA.cT tok bE.nil rfl,ay,ay⟩)
  (mD.wF rfl (dT.oe (l:=1) (bf:=bf) (xs:=sZ l) (n:=l.length) (xv:=[.int .i64 x.1,Bi x.2]) (To rfl) rfl rfl rfl rfl rfl (λM v j c b m=>?_) (by show _*24<=_;omega))) λa=>?_
 .match j,b with
  |0,b=>cases b;cases m;exact⟨rfl,rfl⟩
  |1,b=>grind[str_val]
 have d:=nh a (l.length+1);refine AK.law (bF.B6 rfl rfl) rfl rfl ?_;refine AK.Kg tok 0 rfl rfl rfl rfl rfl (by cases a<;>rfl) d rfl rfl rfl ?_;refine bt rfl ay ?_;refine⟨a,cp.pr [0,1] rfl ay ?_ rfl rfl uE⟩;show aa [_,aP.b8 (fQ _ _ _ _ (sZ l++_))]=aa [_,aP.b8 (fQ _ _ _ _ (sZ (l++[x])))];rw[A8];rfl
def fQ.cut{E:aj}{b cap:Nat}{l:List bo}{x:bo}{v:ah}{ch:Nat->Option Obj}(h:fQ E 2 (.row b cap) (l.length+1) (sZ (l++[x])) v ch):fQ E 2 (.row b cap) l.length (sZ l) v ch:=by
 obtain⟨h1,h2,i,f,a,d,e,g⟩:=h;rw[A8]at *;refine⟨h1,λy c=>h2 y (List.mem_append_left _ c),vD l,by omega,a,sZ [x]++d,?_,?_⟩
 .grind
 grind
def Pn(g b cap:Nat){l:List bo}{x:bo}(d:jZ (l++[x]))(j:l.length<=1000)(a:l.length+1<=cap):
  Ev X 264 [uV (.pointer (aa ⟨g,0,ae⟩))] [cB g (.row b cap) (l.length+1),hB (.row b cap) (l.length+1) (l++[x])] (TY x) [cB g (.row b cap) l.length,hB (.row b cap) l.length l]:=by
 refine Ev.bQ Tryz.func264 rfl λe=>?_;have c:gi 2 (l.length+1) (dN.fn (l++[x])) (sZ (l++[x])):=by grind[xP,List.length_append]
 refine bt rfl ay ?_;refine AK.law (bF.B6 rfl rfl) rfl rfl ?_;refine AK.one (OA.yD tok 0 rfl rfl rfl rfl rfl rfl rfl) rfl ?_;refine bt rfl (by simp only[az,bA,aE];omega) ?_;refine AK.law (bF.B6 rfl rfl) rfl rfl ?_;refine AK.one (OA.yD tok 0 rfl rfl rfl rfl rfl rfl rfl) rfl ?_;refine bt rfl (by simp only[az,bA,aE];omega) ?_;refine AK.law (bF.B7 (l:=1) (i:=l.length) (f:=0) tok rfl rfl (by simp[show i66.size=2 from rfl]) rfl c rfl rfl (by simp)) rfl rfl ?_;refine bt rfl ay ?_;refine AK.law (bF.B6 rfl rfl) rfl rfl ?_;refine AK.one (OA.yD tok 0 rfl rfl rfl rfl rfl rfl rfl) rfl ?_;refine bt rfl ay ?_;refine AK.law (bF.RP tok rfl rfl rfl rfl rfl rfl a (by omega) (by omega)) rfl rfl ?_;rw[show(((l.length+1:Nat):Int)-1).toNat=l.length from by omega];refine AK.law (bF.B6 rfl rfl) rfl rfl ?_;refine AK.Kg tok 0 rfl rfl rfl rfl rfl rfl rfl rfl rfl rfl ?_;refine qz [] 2 rfl ay ?_;refine AK.Ns (ι:=Unit) 1 (λ_=>fQ 66 2 (.row b cap) l.length (sZ l)) rfl (λv k h=>⟨(),fQ.cut h⟩) λ_=>?_;refine bt rfl ay (AK.db [0,1] rfl ?_ rfl rfl rfl uE);simp
abbrev TZ(g:Nat):D:=.e (.one (.c (.ifs 169 (.val (.pointer (aa ⟨g,0,ae⟩))))))
section
variable {σ:List aP}{l g n:Nat}{bf:m8}(a:dt l σ=aa (cB g bf n))
include a
def Ww:qF ag σ 169 (.pointer (aa ⟨g,0,ae⟩)) "Len" 120 (k9 bf n):=.deref tok (ey Tryz.type169) rfl rfl rfl Tryz.underlying169 a rfl (nh bf n) rfl
def Mn:qF ag σ 169 (.pointer (aa ⟨g,0,ae⟩)) "Less" 263 (k9 bf n):=.deref tok (ey Tryz.type169) rfl rfl rfl Tryz.underlying169 a rfl (nh bf n) rfl
def Mo:qF ag σ 169 (.pointer (aa ⟨g,0,ae⟩)) "Swap" 266 (k9 bf n):=.deref tok (ey Tryz.type169) rfl rfl rfl Tryz.underlying169 a rfl (nh bf n) rfl
end
def Wx{σ:List aP}{v:ah}:qF ag σ 169 v "Push" 265 v:=.ptr (ey Tryz.type169) rfl rfl rfl Tryz.underlying169
def ZH{σ:List aP}{v:ah}:qF ag σ 169 v "Pop" 264 v:=.ptr (ey Tryz.type169) rfl rfl rfl Tryz.underlying169
theorem tZ{l:List bo}(h:jZ l){i j:Nat}(hi:i<l.length)(c:j<l.length):jZ (ml l i j):=λx b=>h x (OF hi c b)
theorem xS:∀(f:Nat)(l:List bo)(j:Nat),j<f->xX f l j=xX (j+1) l j
 |0,_,_,h=>absurd h (fL _)
 |f+1,l,j,h=>by
  rw[xX,xX];by_cases b:(j-1) / 2=j
  .grind
  .rw[aZ b,aZ b];split
   .have c:(j-1) / 2<j:=by omega
    rw[xS f _ _ (by omega),xS j _ _ c]
   .rfl
def Tp(g b cap:Nat){l:List bo}(a:jZ l)(y:l.length<=1000){j:Nat}(v:j<l.length):
  Ev X 144 [TZ g,dI j] [cB g (.row b cap) l.length,hB (.row b cap) l.length l] (.eX []) [cB g (.row b cap) l.length,hB (.row b cap) l.length (xX (j+1) l j)]:=by
 refine Ev.bQ Tryz.func144 rfl λx=>?_;refine qz [] 3 rfl ay ?_;refine AK.si 2 [0] (λq:List bo×Nat=>jZ q.1/\q.1.length=l.length/\q.2<l.length/\xX (j+1) l j=xX (q.2+1) q.1 q.2) (λq=>[(1,dI q.2)]) (λq=>[cB g (.row b cap) q.1.length,hB (.row b cap) q.1.length q.1]) (λq=>q.2) (l,j) rfl ?_ rfl ?_ rfl ⟨a,rfl,v,rfl⟩ ?_
 .simp
 .simp
 rintro⟨q,i⟩ ⟨r,p,u,d⟩;simp only at r p u d;cases i with
 |zero =>
  have e:xX (0+1) q 0=q:=by rw[xX,bm rfl]
  rw[e]at d;rw[d];refine qz [] 5 rfl (by simp[bA]) ?_;refine AK.law (En (k:=.i64) 0 rfl rfl rfl (by simp[bA]) (λw=>rfl) (λw=>rfl)) rfl rfl ?_;refine aX [(11,ab),(17,ab)] rfl (by simp) (AK.leaveD rfl rfl ?_);exact cp.pr [0,1] rfl ay (by rw[<-p];rfl) rfl rfl uE
 |succ i =>
  refine aX [(11,af),(1000001,ab)] rfl (by simp only[az,bA];omega) ?_;have s:(((i+1:Nat):Int)-1) / 2=((i / 2:Nat):Int):=by omega
  rw[s];have t:(i+1-1) / 2=i / 2:=by grind
  have m:i / 2<q.length:=by omega
  have c:i+1<q.length:=by omega
  have e:xX (i+1+1) q (i+1)=if nF q (i+1) (i / 2)=ab then xX (i+1) (ml q (i / 2) (i+1)) (i / 2)else q:=by rw[xX,aZ (by omega),t]
  rw[e]at d;refine AK.region ?_;refine aX [(11,af)] rfl (by simp only[az,eD,dq,aE];omega) ?_;refine AK.kD (xQ b cap r q.length c m).tc [1] (Mn (l:=0) rfl) rfl rfl rfl rfl rfl rfl rfl rfl (λ_=>rfl) rfl (λ_=>rfl) rfl λ_=>?_;by_cases o:nF q (i+1) (i / 2)=ab
  .rw[bm o]at d;have f:=oV o;refine aX [(17,af)] rfl (by simpa using f) ?_;refine AK.kD (xR b cap r m c).tc [1] (Mo (l:=0) rfl) rfl rfl rfl rfl rfl rfl rfl rfl (λ_=>rfl) rfl (λ_=>rfl) rfl λ_=>?_;refine bt rfl ay (AK.aQ (ml q (i / 2) (i+1),i / 2) rfl ?_ ?_ ?_ ?_)
   .simp
   .simp[fS]
   .grind [tZ,fS,xS]
   grind
  .rw[aZ o]at d;rw[d];have f:¬(q.getD (i+1) (0,[])).1<(q.getD (i / 2) (0,[])).1:=λh=>o (c8 h);refine aX [(17,ab)] rfl (by simpa using f) (AK.leaveD rfl rfl ?_);exact cp.pr [0,1] rfl ay (by rw[<-p];rfl) rfl rfl uE
def Mp{σ:List aP}{i n:Nat}{bf:m8}{l:List bo}(h:dt i σ=aa (hB bf n l))(e:0<n)(s:St)(d:aF σ s):∃b cap,bf=.row b cap/\n<=cap:=by
 have a:=b5 h;obtain⟨b,cap,rfl⟩:=(fQ.len a s d).2.2.1 e;have c:i<s.β.length:=by rw[d.len];grind
 obtain⟨j,f,_⟩:=d.box i _ _ a (br c);exact⟨b,cap,rfl,f.2.2.2.1⟩
def De(g:Nat)(bf:m8){l:List bo}(a:jZ l)(q:l.length<=100){x:bo}(m:bA .i64 x.1/\x.2.length<=9223372036854775807):
  eb (ι:=m8) X 118 [TZ g,TY x] [cB g bf l.length,hB bf l.length l] (λ_=>.eX []) (λc=>[cB g c (l.length+1),hB c (l.length+1) (gO l x)]):=by
 refine eb.qI Tryz.func118 rfl rfl rfl λp=>?_;refine bt rfl ay ?_;refine AK.kD (Mm g bf a (by omega) m.2) [0,1] Wx rfl rfl rfl rfl rfl rfl rfl rfl (λ_=>rfl) rfl (λ_=>rfl) rfl λc=>?_;have d:jZ (l++[x]):=λy o=>by
  rcases fX.1 o with h|h
  .exact a y h
  grind
 refine AK.Je (Mp (i:=1) (n:=l.length+1) (bf:=c) (l:=l++[x]) rfl (by omega)) λk=>?_;obtain⟨b,cap,rfl,e⟩:=k;refine bt rfl ay ?_;refine AK.kD (A9 (.row b cap) (l.length+1) (l++[x])).tc [1] (Ww (l:=0) rfl) rfl rfl rfl rfl rfl rfl rfl rfl (λ_=>rfl) rfl (λ_=>rfl) rfl λ_=>?_;refine bt rfl (by simp only[az,bA];omega) ?_;rw[show((l.length+1:Nat):Int)-1=(l.length:Nat) by omega];have f:=Tp (X:=X) g b cap d (by grind) (j:=l.length) (by simp);rw[c7,jg]at f;refine AK.cQ f [0,1] rfl ?_;refine bt rfl ay ?_;exact⟨.row b cap,cp.pr [0,1] rfl ay rfl rfl rfl uE⟩
theorem sS:∀(f g:Nat)(l:List bo)(i n:Nat),n<=i+f->n<=i+g->gF f l i n=gF g l i n
 |0,0,_,_,_,_,_=>rfl
 |0,g+1,l,i,n,h,_=>by rw[gF,gF,bm (by omega)]
 |f+1,0,l,i,n,_,h=>by rw[gF,gF,bm (by omega)]
 |f+1,g+1,l,i,n,c,b=>by
  have hk:i<nG l i n:=by unfold nG;split<;>omega
  rw[gF,gF];split
  .rfl
  .split
   .exact sS f g _ _ _ (by omega) (by omega)
   .rfl
def Mq(g b cap n:Nat){l:List bo}(a:jZ l)(B:n<=l.length)(z:l.length<=1000):
  Ev X 147 [TZ g,dI 0,dI n] [cB g (.row b cap) l.length,hB (.row b cap) l.length l] .any [cB g (.row b cap) l.length,hB (.row b cap) l.length (gF n l 0 n)]:=by
 refine Ev.bQ Tryz.func147 rfl λA=>?_;refine dc rfl ay ?_;refine AK.si 2 [0,1,2] (λq:List bo×Nat=>jZ q.1/\q.1.length=l.length/\q.2<=n/\gF n l 0 n=gF n q.1 q.2 n) (λq=>[(7,dI q.2)]) (λq=>[cB g (.row b cap) q.1.length,hB (.row b cap) q.1.length q.1]) (λq=>n-q.2) (l,0) rfl ?_ rfl ?_ rfl ⟨a,rfl,by omega,rfl⟩ ?_
 .simp
 .simp
 rintro⟨q,i⟩ ⟨p,r,x,d⟩;simp only at p r x d;by_cases t:n<=2*i+1
 .have e:gF n q i n=q:=by rw[sS n (n+1) _ _ _ (by omega) (by omega),gF,bm t]
  rw[e]at d;rw[d];refine aX [(17,ab),(21,ab)] rfl (by simp only[az,bA,ba,aG,aE];omega) (AK.leaveD rfl rfl ?_);refine bt rfl ay (AK.db [0,1] rfl ay (by rw[<-r];rfl) rfl rfl uE)
 have hk:i<nG q i n/\nG q i n<n:=by unfold nG;split<;>omega
 have e:gF n q i n=if nF q (nG q i n) i=ab then gF n (ml q i (nG q i n)) (nG q i n) n else q:=by rw[sS n (n+1) _ _ _ (by omega) (by omega),gF,aZ t]
 rw[e]at d;have s:2*i+1<q.length:=by omega
 have o:i<q.length:=by omega
 have v1:2*(i:Int)+1=((2*i+1:Nat):Int):=by omega
 have y:((2*i+1:Nat):Int)+1=((2*i+2:Nat):Int):=by omega
 refine aX [(17,af),(21,af),(1000004,ab)] rfl (by simp only[az,bA,bO,aG,aE];omega) ?_;rw[v1];refine aX [(1000006,ab)] rfl (by simp only[az,bA,bO,aG,aE];omega) ?_;rw[y];apply AK.join [(0,TZ g),(1,dI 0),(2,dI n),(7,dI i),(9,dI (nG q i n))] [cB g (.row b cap) q.length,hB (.row b cap) q.length q]
 .intro out;by_cases u:2*i+2<n
  .refine AK.region ?_;refine aX [(28,ab)] rfl (by simp only[az,ba,aE];omega) ?_;refine AK.kD (xQ b cap p q.length (i:=2*i+2) (j:=2*i+1) (by omega) s).tc [1] (Mn (l:=0) rfl) rfl rfl rfl rfl rfl rfl rfl rfl (λ_=>rfl) rfl (λ_=>rfl) rfl λ_=>?_;by_cases c:nF q (2*i+2) (2*i+1)=ab
   .have m:nG q i n=2*i+2:=bm ⟨u,c⟩;refine aX [(33,ab),(1000008,ab)] rfl (by simpa using oV c) (out _ _ rfl ?_);simp[m]
   .have m:nG q i n=2*i+1:=aZ λh=>c h.2;have f:¬(q.getD (2*i+2) (0,[])).1<(q.getD (2*i+1) (0,[])).1:=λh=>c (c8 h);refine aX [(33,af),(1000008,ab)] rfl (by simpa using f) (out _ _ rfl ?_);simp[m]
  .have m:nG q i n=2*i+1:=aZ λh=>u h.1;refine aX [(28,af),(33,af),(1000008,ab)] rfl (by simp only[az,bO,aG,aE];omega) (out _ _ rfl ?_);simp[m]
 generalize nG q i n=k at *;obtain⟨v,w⟩:=hk;refine AK.region ?_;refine bt rfl ay ?_;refine AK.kD (xQ b cap p q.length (i:=k) (j:=i) (by omega) o).tc [1] (Mn (l:=0) rfl) rfl rfl rfl rfl rfl rfl rfl rfl (λ_=>rfl) rfl (λ_=>rfl) rfl λ_=>?_;by_cases c:nF q k i=ab
 .rw[bm c]at d;refine aX [(39,af)] rfl (by simpa using oV c) ?_;refine AK.kD (xR b cap p o (show k<q.length by omega)).tc [1] (Mo (l:=0) rfl) rfl rfl rfl rfl rfl rfl rfl rfl (λ_=>rfl) rfl (λ_=>rfl) rfl λ_=>?_;refine bt rfl ay (AK.aQ (ml q i k,k) rfl ?_ ?_ ?_ ?_)
  .simp
  .simp[fS]
  .grind [tZ,fS]
  grind
 .rw[aZ c]at d;rw[d];have f:¬(q.getD k (0,[])).1<(q.getD i (0,[])).1:=λh=>c (c8 h);refine aX [(39,ab)] rfl (by simpa using f) (AK.leaveD rfl rfl ?_);refine bt rfl ay (AK.db [0,1] rfl ay (by rw[<-r];rfl) rfl rfl uE)
def xT{n:Nat}:∀(f:Nat){l:List bo}(i:Nat),jZ l->i<l.length->n<=l.length->jZ (gF f l i n)
 |0,_,_,h,_,_=>h
 |f+1,l,i,h,hi,b=>by
  rw[gF];split
  .exact h
  .have hk:nG l i n<n:=by unfold nG;split<;>omega
   split
   .exact xT f _ (tZ h hi (by omega)) (by grind[fS]) (by grind[fS])
   grind
def Fb(g b cap:Nat){l:List bo}{n:Nat}(a:jZ l)(o:l.length=n+1)(q:n<=100)(d:n+1<=cap):
  Ev X 121 [TZ g] [cB g (.row b cap) (n+1),hB (.row b cap) (n+1) l] (TY ((kr l).getD n (0,[]))) [cB g (.row b cap) n,hB (.row b cap) n ((kr l).take n)]:=by
 refine Ev.bQ Tryz.func121 rfl λs=>?_;refine bt rfl ay ?_;refine AK.kD (A9 (.row b cap) (n+1) l).tc [1] (Ww (l:=0) rfl) rfl rfl rfl rfl rfl rfl rfl rfl (λ_=>rfl) rfl (λ_=>rfl) rfl λ_=>?_;refine bt rfl (by simp only[az,bA,aE];omega) ?_;rw[show((n+1:Nat):Int)-1=((n:Nat):Int) by omega];have m:=xR (X:=X) b cap a (i:=0) (j:=n) (by omega) (by omega);rw[o]at m;refine AK.kD m.tc [1] (Mo (l:=0) rfl) rfl rfl rfl rfl rfl rfl rfl rfl (λ_=>rfl) rfl (λ_=>rfl) rfl λ_=>?_;have f:=tZ a (i:=0) (j:=n) (by omega) (by omega);have h:=Mq (X:=X) g b cap n f (by grind[fS]) (by grind[fS]);have c:=xT (n:=n) n 0 f (by grind[fS]) (by grind[fS]);have e:gF n (ml l 0 n) 0 n=kr l:=by unfold kr;grind[sS]
 rw[fS,o,e]at h;rw[e]at c;have p:kr l=(kr l).take n++[(kr l).getD n (0,[])]:=by
  have t:(kr l).length=n+1:=by grind[Cv]
  apply rI
  .grind
  grind
 generalize(kr l).getD n (0,[])=x at *;have k:((kr l).take n).length=n:=by grind
 generalize(kr l).take n=r at *;rw[p]at h c;subst k;refine bt rfl ay ?_;refine AK.cQ h [0,1] rfl ?_;refine bt rfl ay ?_;refine AK.kD (Pn g b cap c (by omega) d).tc [0,1] ZH rfl rfl rfl rfl rfl rfl rfl rfl (λ_=>rfl) rfl (λ_=>rfl) rfl λ_=>?_;refine bt rfl ay (AK.db [0,1] rfl (by simp) rfl rfl rfl uE)
def PH{P:aq}{o:au}{m:ak->D}{σ:List aP}{op:BinOp}{t ty T:aj}{v:ah}{x y:ak}(h:o.op=.binOp op t x y ty){c:Bool}{u:Array (String×aj)}(p:P.underlying t=aa (.interface u))(r:m x=.e (.one (.c .iw)))(z:m y=.e (.one (.c (.val (.iface T v)))))(a:∀w,(eqGuard op t x y .nilIface (.iface T v)).run P w=.ok () w)(g:∀w es,(eqGuard op t x y .nilIface (.iface T v)).events P w es=es)(l:ja op af=aa c):bF P o m σ (.e (.one (.c (.bool c)))) σ:=by
 refine .quiet λs q A n=>?_;have j:=n x;have i:=n y;rw[r]at j;rw[z]at i;replace j:=eT j;replace i:=eT i;generalize b:q x=vx at j;generalize d:q y=vy at i;cases j;cases i;have k:(Op.equal t .nilIface (.iface T v)).run P s.w=.ok af s.w:=by show(aY (9999+1) t _ _).run P s.w=_;unfold aY;simp[underlying,p]
 have f:∀es,(Op.equal t .nilIface (.iface T v)).events P s.w es=es:=λes=>by show(aY (9999+1) t _ _).events P s.w es=es;unfold aY;simp[underlying,p]
 cases op<;>simp only[ja,reduceCtorEq,dm]at l
 .subst l;exact⟨.bool af,by simp[aw,h,b,d,a,binOp,k],Rd.bool,by simp[aw,h,b,d,a,g,binOp,k,f]⟩
 .subst l;exact⟨.bool ab,by simp[aw,h,b,d,a,binOp,k],Rd.bool,by simp[aw,h,b,d,a,g,binOp,k,f]⟩
abbrev dGv(v:ah):D:=.e (.one (.c (.val v)))
def Dr(T:aj)(v:ah):Ev X 82 [.e (.one (.c .iw)),dGv (.iface T v)] [] (dB af) []:=by refine Ev.bQ Tryz.func82 rfl λa=>?_;refine bt rfl ay ?_;refine AK.law (Er rfl Tryz.underlying57 rfl rfl rfl) rfl rfl ?_;refine aX [(11,ab)] rfl (by simp) ?_;refine AK.law (PH rfl Tryz.underlying57 rfl rfl (λ_=>rfl) (λ_ _=>rfl) rfl) rfl rfl ?_;exact bt rfl ay (AK.bw rfl rfl)
abbrev GB(a b:aj×ah):List aP:=[.b8 (dJ 1 57 (.iface a.1 a.2)),.b8 (dJ 2 57 (.iface b.1 b.2))]
def A7:∀j,j<2->([0,1]:List Nat)[j]?=aa j:=by decide
def tY(a b:aj×ah)(k:Int)(p:Bs)(hk:cd k=ab)(c:bx p=ab):Ev X 35 [dI k,dS p] (GB a b) (dI (en k p)) (GB a b):=by refine Ev.bQ Tryz.func35 rfl λd=>?_;have c1:bE X [(81,oQ aI aS (λk p=>YS (en k p)) λk p=>[cd k=ab,bx p=ab])]:=.cons t81 .nil;refine cf c1 rfl (by simp[hk,c]) ?_;refine AK.one (OA.JU tok 0 rfl rfl rfl rfl rfl rfl) rfl ?_;refine AK.cQ (Dr _ _) [] rfl ?_;refine cf c1 rfl ay ?_;refine AK.one (OA.JU tok 1 rfl rfl rfl rfl rfl rfl) rfl ?_;refine AK.NY (Dr _ _) [] rfl rfl rfl rfl rfl rfl rfl rfl rfl rfl rfl ?_;exact aW c1 [(20,af)] rfl (by simp) (AK.db [0,1] rfl rfl rfl rfl rfl A7)
end
section
open Go.Proofs Go.Conc Go.Conc.Lib
open Go.ConcN (WgLive PayAt Has RW AtR0)
open Go.ConcR (KK WgAt stA smA rd wr mk Payload DC0)
instance pay:Payload:=⟨241⟩
def l7(f:Int):dr:=λargs σ=>match args,σ with
 |[.e (.one (.c (.int .i64 k))),g,.e (.one (.c (.int .i64 n)))],[]=>match kX 2 g with
  |none=>ae
  |some (b,d)=>aa (Xo (dK k (cP.list b d) n),[],[cP.fits b d,k=f])
 |_,_=>ae
noncomputable def Ql:Code:=(Tryz.f167.body).getD .skip
noncomputable def KM:Array au:=match Ql with|.seq (.region _ o _) _=>o|_=>#[]
noncomputable def KN:Array au:=match Ql with|.seq _ (.region _ o _)=>o|_=>#[]
def KO:Tryz.f167.body=aa (.seq (.region 0 KM af) (.region 1 KN ab)):=by kernel_rfl
def oW(d:Option Nat)(op:Op)(ty:aj)(b:Array Edge):au:={dst:=d,op:=op,type:=ty,pos:= "l12_snap.go:82",after:=b,guard:=ae}
def uO:List au:=[oW (aa 6) (.load 230 (.tmp 4)) 230 #[],oW (aa 7) (.load 3 (.tmp 5)) 3 #[],oW (aa 8) (.load 3 (.tmp 1)) 3 #[],oW (aa 9) (.load 23 (.tmp 2)) 23 #[],oW (aa 10) (.load 3 (.tmp 3)) 3 #[],
 oW (aa 11) (.call {callee:=.value (.func 169),args:=#[.tmp 8,.tmp 9,.tmp 10],argTypes:=#[3,23,3]}) 241 #[⟨2,.data⟩,⟨3,.data⟩,⟨4,.data⟩],
 oW (aa 12) (.indexAddr 230 (.tmp 6) (.tmp 7)) 0 #[⟨0,.data⟩,⟨1,.data⟩,⟨0,.phase⟩,⟨1,.phase⟩,⟨2,.phase⟩,⟨3,.phase⟩,⟨4,.phase⟩,⟨5,.phase⟩],
 oW ae (.store 241 (.tmp 12) (.tmp 11)) 0 #[⟨6,.data⟩,⟨5,.data⟩,⟨5,.chain⟩,⟨0,.phase⟩,⟨1,.phase⟩,⟨2,.phase⟩,⟨3,.phase⟩,⟨4,.phase⟩,⟨5,.phase⟩]]
def Ou:KN=uO.toArray:=by kernel_rfl
def ow{i:Nat}{o:au}(h:uO[i]?=aa o):i<8:=(bY.1 h).1
section
variable (k:Int)(ps:List bG)(a:Int)(n x C:Nat)
def Vq(b:ah):Fr:=[(0,.e (.one (.v b))),(1,.e (.one (.c (.rp [.int .i64 k])))),(2,.e (.one (.c (.rp [.sl af 2 ps.length (cP.fn ps)])))),(3,.e (.one (.c (.rp [.int .i64 a])))),(4,.e (.one (.c (.rp [.val (.slice (aa ⟨C,0,ae⟩) n n)])))),(5,.e (.one (.c (.rp [.int .i64 x]))))]
def xW:Nat->D
 |0=>.e (.one (.v (.slice (aa ⟨C,0,ae⟩) n n)))
 |1=>dI x
 |2=>dI k
 |3=>cP.sl ps
 |4=>dI a
 |5=>Xo (dK k ps a)
 |6=>.e (.one (.v (.pointer (aa ⟨C,x*2,ae⟩))))
 |_=>.any
def EC:Nat->Option Nat
 |6=>aa 0|7=>aa 1|8=>aa 2|9=>aa 3|10=>aa 4|11=>aa 5|12=>aa 6|_=>ae
def frW(b:ah):Nat->Fr
 |5=>[(8,dI k),(9,cP.sl ps),(10,dI a)]
 |6=>[(6,.e (.one (.v (.slice (aa ⟨C,0,ae⟩) n n)))),(7,dI x)]
 |_=>Vq k ps a n x C b
end
def Ov{X:Cx ag}{n x C:Nat}(g:x<n):OA X 13 uO (oW (aa 12) (.indexAddr 230 (.tmp 6) (.tmp 7)) 0 #[⟨0,.data⟩,⟨1,.data⟩,⟨0,.phase⟩,⟨1,.phase⟩,⟨2,.phase⟩,⟨3,.phase⟩,⟨4,.phase⟩,⟨5,.phase⟩]) [(6,.e (.one (.v (.slice (aa ⟨C,0,ae⟩) n n)))),(7,dI x)] [] (.e (.one (.v (.pointer (aa ⟨C,x*2,ae⟩))))) []:=by
 refine .kQ (λ_ _ _ _=>dC rfl) (bF.quiet λs l m f=>?_);have b:=f (.tmp 6);have c:=f (.tmp 7);have i:bM [(6,D.e (.one (.v (.slice (aa ⟨C,0,ae⟩) n n)))),(7,dI x)] (.tmp 6)=.e (.one (.v (.slice (aa ⟨C,0,ae⟩) n n))):=rfl;have j:bM [(6,D.e (.one (.v (.slice (aa ⟨C,0,ae⟩) n n)))),(7,dI x)] (.tmp 7)=dI x:=rfl;rw[i]at b;rw[j]at c;have b:=Rd.dZ b;have c:=eT c;generalize d:l (.tmp 7)=vy at c;cases c;have h:=(tok 230 i230 rfl).run_underlying (w:=s.w);refine⟨.pointer (aa ⟨C,x*2,ae⟩),?_,Rd.val rfl,?_⟩
 .simp[aw,oW,b,d,Instr.indexAt,asIntOf,h,i230,(tok 241 i241 rfl).run_sizeOf,i241,dk,g]
 .simp[aw,oW,b,d,Instr.indexAt,asIntOf,h,i230,dk,g]
def Vr{X:Cx ag}{k:Int}(l:ee X 169 (l7 k))(ps:List bG)(a:Int)(n x C:Nat)(q:x<n)(p:ah):
  Kp X 13 uO.toArray (Vq k ps a n x C p) [] (xW k ps a n x C) (frW k ps a n x C p) EC 7:=by
 have u:bE X [(169,l7 k)]:=bE.cons l bE.nil;have f:∀(i:Nat) (o:au) (φ:Fr) (d:D) (obs:List Prop),uO[i]?=aa o->we tt [(169,l7 k)] [] uO φ [] o=aa (d,ae,obs)->az obs->OA X 13 uO o φ [] d [] :=
  λi o φ d obs _ h b=>gB tok u h b
 refine⟨?_,?_,?_,?_,?_,?_,by decide⟩
 .intro i o b e m _;simp only[ik]at b;have hi:=ow b
  match i,hi with
  |0,_|1,_|2,_|3,_|4,_|5,_|6,_|7,_ =>
   cases b;simp[oW]at m;try (rcases m with rfl|rfl|rfl|rfl|rfl|rfl|rfl|rfl|rfl<;>decide)
   try (rcases m with rfl|rfl|rfl<;>decide)
 .intro i o d b r;simp only[ik]at b;have hi:=ow b
  match i,hi with
  |0,_|1,_|2,_|3,_|4,_|5,_|6,_|7,_ =>
   cases b;cases r;try exact⟨rfl,by decide⟩
 .intro d i h;unfold EC at h;split at h<;>cases h<;>exact⟨_,rfl,rfl⟩
 .intro i o b g;simp only[ik]at b;have hi:=ow b
  match i,hi with
  |0,_=>cases b;exact f 0 _ _ _ _ rfl rfl ay
  |1,_=>cases b;exact f 1 _ _ _ _ rfl rfl ay
  |2,_=>cases b;exact f 2 _ _ _ _ rfl rfl ay
  |3,_=>cases b;exact f 3 _ _ _ _ rfl rfl ay
  |4,_=>cases b;exact f 4 _ _ _ _ rfl rfl ay
  |5,_ =>
   cases b;have:=f 5 _ (frW k ps a n x C p 5) _ _ rfl rfl (by simp[cP.aU]);rw[cP.list_fn]at this;exact this
  |6,_=>cases b;exact Ov q
  |7,_=>grind
 .intro i o b g t σ s v c;simp only[ik]at b;have hi:=ow b
  match i,hi with
  |0,_|1,_|2,_|3,_|4,_ =>
   match t with
   |0|1|2|3|4|5=>exact c
   |t+6=>trivial
  |5,_ =>
   cases b
   match t with
   |8=>exact(show dj σ s v (xW k ps a n x C 2)from by simpa[EC,oW,di,Region.binds]using c)
   |9=>exact(show dj σ s v (xW k ps a n x C 3)from by simpa[EC,oW,di,Region.binds]using c)
   |10=>exact(show dj σ s v (xW k ps a n x C 4)from by simpa[EC,oW,di,Region.binds]using c)
   |0|1|2|3|4|5|6|7=>trivial
   |t+11=>trivial
  |6,_ =>
   cases b
   match t with
   |6=>exact(show dj σ s v (xW k ps a n x C 0)from by simpa[EC,oW,di,Region.binds]using c)
   |7=>exact(show dj σ s v (xW k ps a n x C 1)from by simpa[EC,oW,di,Region.binds]using c)
   |0|1|2|3|4|5=>trivial
   |t+8=>trivial
  |7,_=>grind
 .intro o b j w g;simp only[ik]at b;cases b
  match j,w with
  |0,_=>exact⟨⟨0,.phase⟩,by simp[oW],rfl,rfl⟩
  |1,_=>exact⟨⟨1,.phase⟩,by simp[oW],rfl,rfl⟩
  |2,_=>exact⟨⟨2,.phase⟩,by simp[oW],rfl,rfl⟩
  |3,_=>exact⟨⟨3,.phase⟩,by simp[oW],rfl,rfl⟩
  |4,_=>exact⟨⟨4,.phase⟩,by simp[oW],rfl,rfl⟩
  |5,_=>exact⟨⟨5,.phase⟩,by simp[oW],rfl,rfl⟩
  |6,_=>exact⟨⟨6,.data⟩,by simp[oW],rfl,rfl⟩
  |7,_=>grind
noncomputable def uP:aR:={(default:aR)with fn:=Tryz.prog.funcs.size,defers:=[],mode:=.panicking [goexitEntry]}
def xi(vs:Array ah):Deferred:={target:=.fn (.func 167) vs,args:=#[]}
def HN(v0 v1 v2 v3 v4 v5:ah)(w:aA):aH ag af (born ag (xi #[v0,v1,v2,v3,v4,v5])) w =
  .go (G ((baseD 167).at ⟨#[v0,v1,v2,v3,v4,v5,ai,ai,ai,ai,ai,ai,ai],[]⟩ [.code (.seq (.region 0 KM af) (.region 1 KN ab))]) [uP]) w #[]:=by
 have c:=KO;have d:Tryz.f167.ntmps=13:=by kernel_rfl
 have b:¬Tryz.f167.name= "runtime.NumGoroutine":=by
  have:(Tryz.f167.name== "runtime.NumGoroutine")=af:=by kernel_rfl
  grind
 simp[born,xi,aH,unwind,callDeferred,invoke,callFunc,Tryz.func167,c,d,b,seen,GStep.after,G,Frame.enter,Frame.at,baseD,uP]
end
section
variable {X:Cx ag}
abbrev pk(ps:List bG)(i:Nat):bG:=ps.getD i (0,[])
def KF{k n:Int}{ps:List bG}{i:Nat}{r:Bs}(hi:i<ps.length)(h:ei k (pk ps i) n=aa r)(a:∀j,j<i->ei k (pk ps j) n=ae):dK k ps n=aa r:=by
 unfold dK;induction ps generalizing i with
 |nil=>grind
 |cons p ps ih =>
  cases i with
  |zero=>grind
  |succ i =>
   have b:=a 0 (by omega);grind
def Ey{k n:Int}{ps:List bG}(a:∀j,j<ps.length->ei k (pk ps j) n=ae):dK k ps n=ae:=by unfold dK;grind[List.getElem_of_mem]
theorem qR.Uo{P:aq}{φ:Fr}{σ:List aP}{T:List (Nat×TI)}(hT:cN P T){fn:Func}{c:Nat}{res:D}{σ':List aP}(ks:List Nat){ps:List Prop}(h:He T fn.results.toList ks φ res=aa ps)(f:az ps)(g:jJ ks σ=aa σ')(a:kn σ'=ab)(i:dw ks=ab)(hk:∀j,j<c->ks[j]?=aa j):
  qR P fn c res σ' .ret φ σ:=by
 refine⟨.inl rfl,ks,?_⟩;unfold He at h;split at h
 .rename_i ds Yz;split at h
  .rename_i d e;split at h
   .rename_i b;exact⟨d,ps,zG.Uo hT Yz e,h,f,b,g,a,i,hk⟩
   grind
  grind
 grind
def xa{a:List Nat}:∀j,j<0->a[j]?=aa j:=λ_ h=>absurd h (fL _)
def KG(b:ee X 119 nB)(k:Int)(ps:List bG)(n:Int)(hk:cd k=ab):Ev X 169 [dI k,cP.sl ps,dI n] [] (Xo (dK k ps n)) []:=by
 refine Ev.rW Tryz.func169 rfl rfl rfl λl=>?_;have f:=l.sl 1 rfl;have d:bE X [(201,Gg aI (Ex dN) aI (λk p n=>Aq (ei k p n)) λk _ _=>[cd k=ab])]:=.cons (Sa b) .nil;refine cf d rfl ay ?_;refine AK.cz 1 (λi=>i<=ps.length/\∀j,j<i->ei k (pk ps j) n=ae) (λi:Nat=>[(0,dI k),(2,dI n),(6,.e (.one (.ptr 0 0))),(11,cP.sl ps),(12,dI ps.length),(13,dI i)]) (λ_=>[.cells 241 [.c (.str []),.c (.bool af)]]) (λi=>ps.length-i) 0 rfl ?_ rfl ?_ rfl ⟨by omega,by omega⟩ ?_
 .simp
 .simp
 rintro i ⟨hi,a⟩;by_cases h:i<ps.length
 .cases g:ei k (pk ps i) n with
  |some r =>
   refine aW d [(14,ab),(24,ab)] rfl ?_ (AK.freeze 6 0 rfl rfl rfl (AK.fE ?_))
   .simp only[az,b9,dN.list_fn];refine⟨?_,dN.aU _,hk,by omega,by omega,c8 (by omega)⟩;grind
   .refine qR.Uo tok [] rfl ?_ rfl rfl rfl xa;rw[KF h g a];simp only[b9,dN.list_fn];have e:ei k ((ps.getD i cP.bZ).1,(ps.getD i cP.bZ).2) n=aa r:=g;rw[e];simp
  |none =>
   refine aW d [(14,ab),(24,af)] rfl ?_ (AK.aQ (i+1) rfl ?_ ?_ ?_ ?_)
   .simp only[az,b9,dN.list_fn];refine⟨by simp only[bA];omega,?_,dN.aU _,hk,by omega,by omega,c8 (by omega)⟩;grind
   .simp
   .simp
   .grind
   grind
 .refine aW d [(14,af)] rfl (by simp;omega) (AK.leaveD rfl rfl ?_);refine cf d rfl ay ?_;refine AK.freeze 6 0 rfl rfl rfl ?_;refine AK.Q6 tok [] rfl ?_ rfl rfl rfl xa;rw[Ey λj m=>a j (by omega)];simp
def Sb(a:ee X 119 nB){k:Int}(hk:cd k=ab):ee X 169 (l7 k):=by
 intro args σ res σ' obs h d;unfold l7 at h;split at h
 .rename_i k1 da n;split at h
  .cases h
  .rename_i f e c;cases h;obtain⟨b,rfl⟩:=d;exact(KG a _ _ n hk).args λs vs=>cg.imp (λ_ r=>r) (cg.imp (λ_ r=>cP.jS c b r) (cg.imp (λ_ r=>r) (λ_ r=>r))) vs
 grind
def HC:dr:=λargs σ=>match args,σ with
 |[.e (.one (.c (.str [46]))),.e (.one (.c (.int .i64 c)))],[]=>aa (dS (List.replicate c.toNat 46),[],[0<=c/\c<=3])
 |_,_=>ae
def t146:ee X 146 (kq aI (λn=>dI (cG n.toNat)) λn=>[0<=n/\n<=4000000]):=.px λn h=>by
 have a:0<=n/\n<=4000000:=h;obtain⟨m,rfl⟩:∃m:Nat,n=m:=⟨n.toNat,by omega⟩
 exact Ci (X:=X) m (by omega)
def KH{n:Nat}(b:1<=n)(a:n<=8):n<=cG n/\cG n<=n+3:=by unfold cG;grind
def KI(a:ee X 145 HC)(p:Bs):Ev X 119 [dS p] [] (dS (eO p)) []:=by
 refine Ev.bQ Tryz.func119 rfl λf=>?_;have d:bE X [(129,kq aS (λs=>dB (bx s)) λ_=>[]),(146,kq aI (λn=>dI (cG n.toNat)) λn=>[0<=n/\n<=4000000]),(145,HC)]:=.cons t129 (.cons t146 (.cons a .nil));by_cases b:bx p=ab
 .have c:=b;simp only[bx,bR,ba]at c;have e:=KH c.1.1 c.1.2;refine aW d [(5,af)] rfl ?_ (AK.bw rfl ?_)
  .simp[b,bA];omega
  .simp[eO,b]
 .refine aW d [(5,ab)] rfl ?_ (AK.bw rfl ?_)
  .simp[b]
  .simp[eO,b]
def Vj(a:ee X 145 HC):ee X 119 nB:=.px λp _=>KI a p
def On:Ev X 145 [dS [46],dI 0] [] (dS []) []:=by
 refine Ev.bQ Tryz.func145 rfl λa=>?_;refine aX [(12,ab)] rfl ?_ (AK.bw rfl)
 .simp
def Oo:Ev X 145 [dS [46],dI 1] [] (dS [46]) []:=by
 refine Ev.bQ Tryz.func145 rfl λa=>?_;refine aX [(12,af),(14,ab)] rfl ?_ (AK.bw rfl)
 .simp
def Vi(a:Ev X 145 [dS [46],dI 2] [] (dS [46,46]) [])(d:Ev X 145 [dS [46],dI 3] [] (dS [46,46,46]) []):ee X 145 HC:=by
 intro args σ res σ' obs h b;unfold HC at h;split at h
 .rename_i c;cases h;have:c=0∨c=1∨c=2∨c=3:=by have:0<=c/\c<=3:=b;omega
  rcases this with rfl|rfl|rfl|rfl
  .exact On
  .exact Oo
  .exact a
  grind
 grind
def R6(a b:List Bs):Ev X 172 [cS.sl a,cS.sl b] [] (dB (a==b)) []:=by
 refine Ev.bQ Tryz.func172 rfl λk=>?_;have f:=k.sl 0 rfl;by_cases c:a.length=b.length
 .refine aX [(10,af)] rfl (by simp[c]) ?_;refine AK.j1 (λi=>i<=a.length/\∀j,j<i->a.getD j []=b.getD j []) (λi:Nat=>[(0,cS.sl a),(1,cS.sl b),(12,dI a.length),(13,dI i)]) (λ_=>[]) (λi=>a.length-i) 0 rfl ?_ rfl ay ⟨by omega,by omega⟩ ?_
  .simp
  rintro i ⟨hi,d⟩;by_cases h:i<a.length
  .by_cases g:a.getD i []=b.getD i []
   .refine aX [(14,ab),(24,af)] rfl ?_ (AK.gd (i+1) rfl ?_ rfl ay ?_ ?_)
    .simp only[az,b9];have e:(a.getD i cS.bZ==b.getD i cS.bZ)=ab:=hI.2 g;exact⟨by simp only[bA];omega,by grind,by omega,by omega,by omega,by omega,c8 (by omega)⟩
    .simp
    .grind
    .omega
   .refine aX [(14,ab),(24,ab)] rfl ?_ (AK.iC (cp.zero rfl ?_))
    .simp only[az,b9];grind
    .have:(a==b)=af:=eD.2 (by grind);simp[this]
  .refine aX [(14,af)] rfl (by simp;omega) (AK.leave rfl rfl ?_);refine bt rfl ay (AK.bw rfl ?_);have:a=b:=rI c λj g l=>by grind
   simp[this]
 .refine aX [(10,ab)] rfl ?_ (AK.bw rfl ?_)
  .simp;omega
  .have:(a==b)=af:=eD.2 (by grind);simp[this]
end
def xb{P:aq}{o:au}{n:ak->D}{σ:List aP}{op:BinOp}{t ty:aj}{x y:ak}(h:o.op=.binOp op t x y ty){e:aj}(C:P.underlying t=aa (.pointer e)){b c:Bool}(z:∀s u v,aF σ s->dj σ s u (n x)->dj σ s v (n y)->∃p q,u=.pointer p/\v=.pointer q/\(p==q)=b/\(eqGuard op t x y u v).run P s.w=.ok () s.w/\(∀es,(eqGuard op t x y u v).events P s.w es=es) /\
   (Op.equal t u v).run P s.w=.ok b s.w/\∀es,(Op.equal t u v).events P s.w es=es)(l:ja op b=aa c):bF P o n σ (.e (.one (.c (.bool c)))) σ:=by
 refine .quiet λs E A r=>?_;obtain⟨p,q,g,f,B,i,m,j,k⟩:=z s _ _ A (r x) (r y);rw[g,f]at i j;have d:=m #[];have a:=k #[];rw[g,f]at d a;cases op<;>simp only[ja,reduceCtorEq,dm]at l
 .subst l;exact⟨.bool b,by simp[aw,h,g,f,i,binOp,j],Rd.bool,by simp[aw,h,g,f,i,d,binOp,j,a]⟩
 .subst l;exact⟨.bool (!b),by simp[aw,h,g,f,i,binOp,j],Rd.bool,by simp[aw,h,g,f,i,d,binOp,j,a]⟩
def tF{P:aq}{o:au}{i:ak->D}{σ:List aP}{op:BinOp}{t ty:aj}{x:ak}(h:o.op=.binOp op t x (.const (.pointer ae)) ty){e:aj}(g:P.underlying t=aa (.pointer e)){c:Bool}(j:i x=.e (.one (.c .hY)))(k:i (.const (.pointer ae))=.e (.one (.c .hY)))(l:ja op ab=aa c):bF P o i σ (.e (.one (.c (.bool c)))) σ:=by
 refine xb h g (b:=ab) ?_ l;intro s u v _ a d;rw[j]at a;rw[k]at d;replace a:=eT a;replace d:=eT d;cases a;cases d;have m:(Op.equal t (.pointer ae) (.pointer ae)).run P s.w=.ok ab s.w:=by show(aY (9999+1) t _ _).run P s.w=_;unfold aY;simp[underlying,g]
 have f:∀es,(Op.equal t (.pointer ae) (.pointer ae)).events P s.w es=es:=λes=>by show(aY (9999+1) t _ _).events P s.w es=es;unfold aY;simp[underlying,g]
 exact⟨ae,ae,rfl,rfl,rfl,by cases op<;>simp[eqGuard],λes=>by cases op<;>simp[eqGuard],m,f⟩
def R2{P:aq}{o:au}{g:ak->D}{σ:List aP}{op:BinOp}{t ty:aj}{x:ak}(h:o.op=.binOp op t x (.const (.pointer ae)) ty){e:aj}(f:P.underlying t=aa (.pointer e)){c:Bool}{l off:Nat}(j:g x=.e (.one (.ptr l off)))(k:g (.const (.pointer ae))=.e (.one (.c .hY)))(m:ja op af=aa c):bF P o g σ (.e (.one (.c (.bool c)))) σ:=by
 refine xb h f (b:=af) ?_ m;intro s u v _ i a;rw[j]at i;rw[k]at a;replace a:=eT a;cases a;obtain⟨_,L,b,_,_,rfl⟩:=(i:gn σ s u (.ptr l off));have n:(Op.equal t (.pointer (aa ⟨b,off,ae⟩)) (.pointer ae)).run P s.w=.ok af s.w:=by show(aY (9999+1) t _ _).run P s.w=_;unfold aY;simp[underlying,f]
 have d:∀es,(Op.equal t (.pointer (aa ⟨b,off,ae⟩)) (.pointer ae)).events P s.w es=es:=λes=>by show(aY (9999+1) t _ _).events P s.w es=es;unfold aY;simp[underlying,f]
 exact⟨_,ae,rfl,rfl,rfl,by cases op<;>simp[eqGuard],λes=>by cases op<;>simp[eqGuard],n,d⟩
def Od{P:aq}{o:au}{k:ak->D}{σ:List aP}{op:BinOp}{t ty:aj}{x y:ak}(h:o.op=.binOp op t x y ty){e:aj}(j:P.underlying t=aa (.pointer e)){n:Nat}(r:n≠0)(p:∀w,(sizeOf e).run P w=.ok n w)(f:∀w es,(sizeOf e).events P w es=es){c:Bool}{l off:Nat}(z:k x=.e (.one (.ptr l off)))(B:k y=.e (.one (.ptr l off)))(C:ja op ab=aa c):bF P o k σ (.e (.one (.c (.bool c)))) σ:=by
 refine xb h j (b:=ab) ?_ C;intro s u v _ m q;rw[z]at m;rw[B]at q;obtain⟨_,L,b,A,g,rfl⟩:=(m:gn σ s u (.ptr l off));obtain⟨_,F,G,d,a,rfl⟩:=(q:gn σ s v (.ptr l off));rw[A]at d;cases d;rw[g]at a;cases a;have E:(Op.equal t (.pointer (aa ⟨b,off,ae⟩)) (.pointer (aa ⟨b,off,ae⟩))).run P s.w=.ok ab s.w:=by show(aY (9999+1) t _ _).run P s.w=_;unfold aY;simp[underlying,j,p,r,sameAddr]
 have i:∀es,(Op.equal t (.pointer (aa ⟨b,off,ae⟩)) (.pointer (aa ⟨b,off,ae⟩))).events P s.w es=es:=λes=>by show(aY (9999+1) t _ _).events P s.w es=es;unfold aY;simp[underlying,j,p,f,r,sameAddr]
 exact⟨_,_,rfl,rfl,by simp,by cases op<;>simp[eqGuard],λes=>by cases op<;>simp[eqGuard],E,i⟩
def Gi{P:aq}{o:au}{i:ak->D}{σ:List aP}{op:BinOp}{t ty:aj}{x:ak}(h:o.op=.binOp op t x (.const (.pointer ae)) ty){e:aj}(g:P.underlying t=aa (.pointer e)){c:Bool}{cs:List C}(j:i x=.e (.one (.c (.rp cs))))(k:i (.const (.pointer ae))=.e (.one (.c .hY)))(l:ja op af=aa c):bF P o i σ (.e (.one (.c (.bool c)))) σ:=by
 refine xb h g (b:=af) ?_ l;intro s u v _ a d;rw[j]at a;rw[k]at d;replace a:=eT a;replace d:=eT d;cases d;cases a with|rp b off =>
 have m:(Op.equal t (.pointer (aa ⟨b,off,ae⟩)) (.pointer ae)).run P s.w=.ok af s.w:=by show(aY (9999+1) t _ _).run P s.w=_;unfold aY;simp[underlying,g]
 have f:∀es,(Op.equal t (.pointer (aa ⟨b,off,ae⟩)) (.pointer ae)).events P s.w es=es:=λes=>by show(aY (9999+1) t _ _).events P s.w es=es;unfold aY;simp[underlying,g]
 exact⟨_,ae,rfl,rfl,rfl,by cases op<;>simp[eqGuard],λes=>by cases op<;>simp[eqGuard],m,f⟩
section
variable {X:Cx ag}
abbrev bB(a:Bool)(v1:ah)(bf:Option (Nat×Nat))(xs:Bs)(b:Nat):aP:=.b8 (BB 249 5 a v1 bf xs b)
def Ce(v1:ah)(b:cE v1=ab)(bf:Option (Nat×Nat))(xs:Bs)(a:Nat):Ev X 213 [.e (.one (.ptr 0 0))] [bB af v1 bf xs a] (.eX []) [bB ab v1 bf xs a]:=by
 refine Ev.bQ Tryz.func213 rfl λd=>?_;refine bt rfl ay ?_;refine AK.law (bF.QX tok rfl rfl rfl rfl rfl) rfl rfl ?_;refine AK.law (tF rfl Tryz.underlying247 rfl rfl rfl) rfl rfl ?_;refine bt rfl ay ?_;refine AK.law (bF.bTo rfl rfl Tryz.underlying247 Tryz.underlying120 (ey Tryz.type249) (by simp[Tryz.t249]) rfl) rfl rfl ?_;refine AK.law (bF.Ui Tryz.func229 (by kernel_rfl) (by kernel_rfl) (by kernel_rfl) (by kernel_rfl) rfl rfl rfl) rfl rfl ?_;refine AK.law (bF.Uh rfl rfl Tryz.underlying120 Tryz.underlying247 (ey Tryz.type249) (by simp[Tryz.t249]) (by kernel_rfl) rfl) rfl rfl ?_
 refine bt rfl ay ?_;refine AK.law (bF.Nk tok rfl rfl rfl rfl rfl rfl b) rfl rfl ?_;refine bt rfl ay ?_;exact cp.pr [0] rfl ay rfl rfl rfl (λj c=>by grind)
def Cf(v1:ah)(bf:Option (Nat×Nat))(xs:Bs)(a:Nat):Ev X 213 [.e (.one (.ptr 0 0))] [bB ab v1 bf xs a] (.eX []) [bB ab v1 bf xs a]:=by
 refine Ev.bQ Tryz.func213 rfl λc=>?_;refine bt rfl ay ?_;refine AK.law (bF.I8 tok rfl rfl rfl rfl rfl) rfl rfl ?_;refine AK.law (R2 rfl Tryz.underlying247 rfl rfl rfl) rfl rfl ?_;refine bt rfl ay ?_;refine AK.law (bF.I8 tok rfl rfl rfl rfl rfl) rfl rfl ?_;refine bt rfl ay ?_;refine AK.law (Od rfl Tryz.underlying247 (n:=2) (by decide) (λw=>by simp[sizeOf,typeInfo,ey Tryz.type249,Tryz.t249]) (λw es=>by simp[sizeOf,typeInfo,ey Tryz.type249]) rfl rfl rfl) rfl rfl ?_
 refine bt rfl ay ?_;exact cp.pr [0] rfl ay rfl rfl rfl (λj b=>by grind)
abbrev bb(a:Bool)(bf:Option (Nat×Nat))(xs:Bs)(b:Nat):aP:=bB a (oZ bf xs.length) bf xs b
def An:∀j,j<1->([0]:List Nat)[j]?=aa j:=λj a=>by grind
def Ao(a:Bool)(bf:Option (Nat×Nat))(xs:Bs)(b:Nat)(d:xs.length<=9223372036854775807)(c:bf=ae->xs=[]):Ev X 177 [.e (.one (.ptr 0 0))] [bb a bf xs b] (dI xs.length) [bb a bf xs b]:=by
 refine Ev.bQ Tryz.func177 rfl λf=>?_;refine bt rfl ay ?_;refine AK.law (bF.fi tok rfl rfl rfl rfl rfl) rfl rfl ?_;cases bf with
 |none =>
  have:=c rfl;subst this;refine AK.law (bF.uJ rfl rfl Tryz.underlying22 rfl (by simp)) rfl rfl ?_;refine bt rfl ay (AK.db [0] rfl ?_ rfl rfl rfl An);simp
 |some p =>
  refine AK.law (bF.uJ rfl rfl Tryz.underlying22 rfl d) rfl rfl ?_;refine bt rfl ay (AK.db [0] rfl ?_ rfl rfl rfl An);simp
def El(g cap:Nat)(xs s:Bs)(b:Nat)(f:s.length<=9223372036854775807)(a:xs.length+s.length<=cap):Ev X 176 [.e (.one (.ptr 0 0)),dS s] [bb ab (aa (g,cap)) xs b] (.eX [.one (.c (.int .i64 s.length)),.one (.c .iw)]) [bb ab (aa (g,cap)) (xs++s) b]:=by
 refine Ev.bQ Tryz.func176 rfl λd=>?_;refine bt rfl ay ?_;refine AK.cQ (Cf (oZ (aa (g,cap)) xs.length) (aa (g,cap)) xs b) [0] rfl ?_;refine bt rfl ay ?_;refine AK.law (bF.fi tok rfl rfl rfl rfl rfl) rfl rfl ?_;refine bt rfl ay ?_;refine AK.law (bF.Nl (l:=0) (g:=g) (cap:=cap) (xs:=xs) rfl Tryz.underlying22 Tryz.underlying9 (ey Tryz.type5) (by simp[Tryz.t5]) rfl rfl rfl rfl a) rfl rfl ?_;refine bt rfl ay ?_;refine AK.law (bF.zx tok rfl rfl rfl rfl rfl rfl rfl) rfl rfl ?_;have e:bb ab (aa (g,cap)) (xs++s) b=.b8 (BB 249 5 ab (oZ (aa (g,cap)) (xs.length+s.length)) (aa (g,cap)) (xs++s) b):=by grind
 rw[e];refine bt rfl ay (AK.db [0] rfl ?_ rfl rfl rfl An);simp
theorem R3:Ev X 176 [.e (.one (.ptr 0 0)),dS []] [bb ab ae [] 0] (.eX [.one (.c (.int .i64 0)),.one (.c .iw)]) [bb ab ae [] 0]:=by refine Ev.bQ Tryz.func176 rfl λa=>?_;refine bt rfl ay ?_;refine AK.cQ (Cf (oZ ae 0) ae [] 0) [0] rfl ?_;refine bt rfl ay ?_;refine AK.law (bF.fi tok rfl rfl rfl rfl rfl) rfl rfl ?_;refine bt rfl ay ?_;refine AK.law (bF.Jc rfl Tryz.underlying22 Tryz.underlying9 (ey Tryz.type5) rfl rfl) rfl rfl ?_;refine bt rfl ay ?_;refine AK.law (bF.zx tok rfl rfl rfl rfl rfl rfl rfl) rfl rfl ?_;refine bt rfl ay (AK.db [0] rfl ?_ rfl rfl rfl An);simp
abbrev dp:D:=.e (.one (.ptr 0 0))
abbrev M5:D:=.e (.one (.ptr 0 1))
def Em(g cap:Nat)(xs:Bs)(c:Nat)(a:xs.length<=9223372036854775807)(b:cap≠0):Ev X 178 [.e (.one (.ptr 0 0))] [bb ab (aa (g,cap)) xs c] (dS xs) [bb ab (aa (g,cap)) xs xs.length]:=by
 refine Ev.bQ Tryz.func178 rfl λd=>?_;refine aX [(1000001,ab)] rfl ay ?_;refine AK.M4 iZ 10 (λi=>bu i 9) (λi=>[dp,dp,M5,.e (.one (.v (.slice (aa ⟨g,0,ae⟩) xs.length cap))),.e (.one (.v (.pointer (aa ⟨g,0,ae⟩)))),dp,dp,M5,.e (.one (.v (.slice (aa ⟨g,0,ae⟩) xs.length cap))),dI xs.length].getD i .any) (λ(_:Unit) _=>dS xs)
  (λ_=>[bb ab (aa (g,cap)) xs xs.length]) rfl rfl rfl rfl rfl rfl ?_ ?_ ?_ ?_
 .refine⟨.cT tok bE.nil rfl,.cT tok bE.nil rfl,.cT tok bE.nil rfl,?_,?_,.cT tok bE.nil rfl,.cT tok bE.nil rfl,.cT tok bE.nil rfl,?_,?_,ay,ay,ay⟩
  .exact .law (bF.fi (l:=0) tok rfl rfl rfl rfl rfl) rfl
  .exact .law (bF.Ue rfl rfl b) rfl
  .exact .law (bF.fi (l:=0) tok rfl rfl rfl rfl rfl) rfl
  .exact .law (bF.uJ rfl rfl Tryz.underlying22 rfl a) rfl
 .intro _;refine⟨.cT tok bE.nil rfl,.cT tok bE.nil rfl,.cT tok bE.nil rfl,?_,?_,.cT tok bE.nil rfl,.cT tok bE.nil rfl,.cT tok bE.nil rfl,?_,?_,ay,.cT tok bE.nil rfl,ay⟩
  .exact .law (bF.fi (l:=0) tok rfl rfl rfl rfl rfl) rfl
  .exact .law (bF.Ue rfl rfl b) rfl
  .exact .law (bF.fi (l:=0) tok rfl rfl rfl rfl rfl) rfl
  .exact .law (bF.uJ rfl rfl Tryz.underlying22 rfl a) rfl
 .exact .z9 (.law (Uc (l:=0) rfl Tryz.underlying278 (by kernel_rfl) rfl rfl rfl) rfl)
 .intro _;refine bt rfl ay (AK.db [0] rfl ?_ rfl rfl rfl An);simp
def Vh{o:au}{a:ak->D}{σ:List aP}{t ty:aj}{x y:ak}(h:o.op=.binOp .add t x y ty){b:Int}(f:a x=dI 0)(e:a y=dI b)(d:bA .i64 b):bF ag o a σ (dI b) σ:=by have:=bF.binOp (P:=ag) (σ:=σ) h f e (c:=.int .i64 (0+b)) (obs:=[bA .i64 (0+b)]) rfl (by rw[Int.zero_add];exact d);grind
def eb.Qg{ι:Type}{f:aJ}{fn:Func}{c:Code}{args:List D}{σ:List aP}{σ':ι->List aP}{res:ι->D}(g:Tryz.prog.funcs[f]?=aa fn)(b:(fn.name== "runtime.NumGoroutine")=af)(d:fn.body=aa c)(a:bu args.length fn.ntmps=ab)(h:AK X fn.ntmps (λe φ σ1=>∃j,cp fn σ.length (res j) (σ' j) e φ σ1) [.code c] .normal (iY 0 args) σ):eb X f args σ res σ' :=
 eb.intro g b d (cV a) (AK.of_code h)
def Oe:Ev X 178 [.e (.one (.ptr 0 0))] [bb ab ae [] 0] (dS []) [bb ab ae [] 0]:=by
 refine Ev.bQ Tryz.func178 rfl λa=>?_;refine aX [(1000001,ab)] rfl ay ?_;refine AK.M4 iZ 10 (λi=>bu i 9) (λi=>[dp,dp,M5,.e (.one (.v (.slice ae 0 0))),.e (.one (.v (.pointer ae))),dp,dp,M5,.e (.one (.v (.slice ae 0 0))),dI (0:Nat)].getD i .any) (λ(_:Unit) _=>dS [])
  (λ_=>[bb ab ae [] 0]) rfl rfl rfl rfl rfl rfl ?_ ?_ ?_ ?_
 .refine⟨.cT tok bE.nil rfl,.cT tok bE.nil rfl,.cT tok bE.nil rfl,?_,?_,.cT tok bE.nil rfl,.cT tok bE.nil rfl,.cT tok bE.nil rfl,?_,?_,ay,ay,ay⟩
  .exact .law (bF.fi (l:=0) tok rfl rfl rfl rfl rfl) rfl
  .exact .law (bF.Ud rfl rfl) rfl
  .exact .law (bF.fi (l:=0) tok rfl rfl rfl rfl rfl) rfl
  .exact .law (bF.uJ rfl rfl Tryz.underlying22 rfl (by decide)) rfl
 .intro _;refine⟨.cT tok bE.nil rfl,.cT tok bE.nil rfl,.cT tok bE.nil rfl,?_,?_,.cT tok bE.nil rfl,.cT tok bE.nil rfl,.cT tok bE.nil rfl,?_,?_,ay,.cT tok bE.nil rfl,ay⟩
  .exact .law (bF.fi (l:=0) tok rfl rfl rfl rfl rfl) rfl
  .exact .law (bF.Ud rfl rfl) rfl
  .exact .law (bF.fi (l:=0) tok rfl rfl rfl rfl rfl) rfl
  .exact .law (bF.uJ rfl rfl Tryz.underlying22 rfl (by decide)) rfl
 .exact .z9 (.law (bF.Ug rfl rfl rfl) rfl)
 .intro _;refine bt rfl ay (AK.db [0] rfl ?_ rfl rfl rfl An);simp
def Of(n:Nat)(d:0<n)(c:n<=140737488355328):eb (ι:={p:Nat×Nat // n<=p.2}) X 214 [.e (.one (.ptr 0 0)),dI n] [bb ab ae [] 0] (λ_=>.eX []) (λj=>[bb ab (aa j.1) [] 0]):=by
 refine eb.Qg Tryz.func214 rfl rfl rfl ?_;refine aX [(1000000,ab)] rfl ay ?_;have a:bA .i64 (n:Int):=by simp only[bA];omega
 have v0:D:=.e (.one (.v (.slice ae 0 0)));refine AK.M4 (ι:={p:Nat×Nat // n<=p.2}) iZ 8 (λi=>bu i 7||(bu 9 i&&bu i 13)) (λi=>[dp,dp,M5,.e (.one (.v (.slice ae 0 0))),dI (0:Nat),dI 0,dI n,dI n,.any,dp,dp,M5,.e (.one (.v (.slice ae 0 0))),dI (0:Nat)].getD i .any)
  (λj i=>[.e (.one (.v (oZ (aa j.1) n))),.any,.any,.any,.any,.any,.e (.one (.v (.slice (aa ⟨j.1.1,0,ae⟩) 0 j.1.2))),.e (.one (.v (.slice (aa ⟨j.1.1,0,ae⟩) 0 j.1.2)))].getD (i-8) .any)
  (λj=>[bB ab (.slice ae 0 0) (aa j.1) [] 0]) rfl rfl rfl rfl rfl rfl ?_ ?_ ?_ ?_
 .refine⟨.cT tok bE.nil rfl,.cT tok bE.nil rfl,.cT tok bE.nil rfl,?_,?_,?_,.cT tok bE.nil rfl,?_,ay,.cT tok bE.nil rfl,.cT tok bE.nil rfl,.cT tok bE.nil rfl,?_,?_,ay,ay,ay⟩
  .exact .law (bF.fi (l:=0) tok rfl rfl rfl rfl rfl) rfl
  .exact .law (bF.Nn rfl rfl Tryz.underlying22 rfl (by decide)) rfl
  .exact .law (En 0 rfl rfl rfl (by simp[bA]) (λw=>rfl) (λw=>rfl)) rfl
  .exact .law (Vh rfl rfl rfl a) rfl
  .exact .law (bF.fi (l:=0) tok rfl rfl rfl rfl rfl) rfl
  .exact .law (bF.uJ rfl rfl Tryz.underlying22 rfl (by decide)) rfl
 .intro j;have b:j.1.2≠0:=by grind
  refine⟨.cT tok bE.nil rfl,.cT tok bE.nil rfl,.cT tok bE.nil rfl,?_,?_,?_,.cT tok bE.nil rfl,?_,ay,.cT tok bE.nil rfl,.cT tok bE.nil rfl,.cT tok bE.nil rfl,?_,?_,?_,.cT tok bE.nil rfl,ay⟩
  .exact .law (bF.fi (l:=0) tok rfl rfl rfl rfl rfl) rfl
  .exact .law (bF.Nn rfl rfl Tryz.underlying22 rfl (by decide)) rfl
  .exact .law (En 0 rfl rfl rfl (by simp[bA]) (λw=>rfl) (λw=>rfl)) rfl
  .exact .law (Vh rfl rfl rfl a) rfl
  .exact .law (bF.fi (l:=0) tok rfl rfl rfl rfl rfl) rfl
  .exact .law (bF.uJ rfl rfl Tryz.underlying22 rfl (by decide)) rfl
  .exact .law (bF.Uf (k:=0) rfl Tryz.underlying22 (ey Tryz.type5) rfl rfl (lk _) j.2 b (dk _ _ _)) rfl
 .exact .kQ rfl (Ub (l:=0) (ps:=#[3]) Tryz.underlying22 Tryz.func230 (by kernel_rfl) (by kernel_rfl) (by kernel_rfl) (by kernel_rfl) rfl rfl rfl d c rfl)
 .intro j;refine bt rfl ay ?_;refine AK.law (bF.fi (l:=0) tok rfl rfl rfl rfl rfl) rfl rfl ?_;refine AK.law (bF.copyV rfl Tryz.underlying22 (ey Tryz.type5) rfl rfl) rfl rfl ?_;refine bt rfl ay ?_;refine AK.law (bF.zx (l:=0) tok rfl rfl rfl rfl rfl rfl rfl) rfl rfl ?_;refine bt rfl ay ?_;exact⟨j,cp.pr [0] rfl ay rfl rfl rfl An⟩
def Ge(n:Nat)(b:0<n)(a:n<=140737488355328):eb (ι:={p:Nat×Nat // n<=p.2}) X 175 [.e (.one (.ptr 0 0)),dI n] [bb af ae [] 0] (λ_=>.eX []) (λj=>[bb ab (aa j.1) [] 0]):=by
 refine eb.Qg Tryz.func175 rfl rfl rfl ?_;refine bt rfl ay ?_;refine AK.cQ (Ce (oZ ae 0) rfl ae [] 0) [0] rfl ?_;refine aX [(7,af),(1000003,ab)] rfl ?_ ?_
 .simp
 refine AK.M4 iZ 4 (λi=>bu i 3||(bu 5 i&&bu i 9)||aB i 11) (λi=>[dp,dp,M5,.e (.one (.v (.slice ae 0 0))),.any,dp,dp,M5,.e (.one (.v (.slice ae 0 0))),dI (0:Nat),.any,dI n].getD i .any)
  (λ(_:Unit) i=>[dI (0:Nat),.any,.any,.any,.any,.any,dI (0-0),.any,dB ab].getD (i-4) .any)
  (λ_=>[bb ab ae [] 0]) rfl rfl rfl rfl rfl rfl ?_ ?_ ?_ ?_
 .refine⟨.cT tok bE.nil rfl,.cT tok bE.nil rfl,.cT tok bE.nil rfl,?_,ay,.cT tok bE.nil rfl,.cT tok bE.nil rfl,.cT tok bE.nil rfl,?_,?_,ay,.cT tok bE.nil rfl,ay,ay⟩
  .exact .law (bF.fi (l:=0) tok rfl rfl rfl rfl rfl) rfl
  .exact .law (bF.fi (l:=0) tok rfl rfl rfl rfl rfl) rfl
  .exact .law (bF.uJ rfl rfl Tryz.underlying22 rfl (by decide)) rfl
 .intro _;refine⟨.cT tok bE.nil rfl,.cT tok bE.nil rfl,.cT tok bE.nil rfl,?_,ay,.cT tok bE.nil rfl,.cT tok bE.nil rfl,.cT tok bE.nil rfl,?_,?_,?_,.cT tok bE.nil rfl,?_,ay⟩
  .exact .law (bF.fi (l:=0) tok rfl rfl rfl rfl rfl) rfl
  .exact .law (bF.fi (l:=0) tok rfl rfl rfl rfl rfl) rfl
  .exact .law (bF.uJ rfl rfl Tryz.underlying22 rfl (by decide)) rfl
  .exact .eval (ds:=[]) tok bE.nil (obs:=[bA .i64 (((0:Nat):Int)-((0:Nat):Int))]) rfl (by simp[bA])
  .exact .eval (ds:=[(21,ab)]) tok bE.nil (obs:=[decide ((0:Int)-0<(n:Int))=ab]) rfl (by simp;omega)
 .exact .z9 (.law (bF.Nn rfl rfl Tryz.underlying22 rfl (by decide)) rfl)
 .intro _;refine bt rfl ay ?_;refine AK.cP (Of n b a) [0] rfl (λ_=>rfl) λj=>?_;refine bt rfl ay ?_;exact⟨j,cp.pr [0] rfl ay rfl rfl rfl An⟩
def Ks:Ev X 175 [.e (.one (.ptr 0 0)),dI (0:Nat)] [bb af ae [] 0] (.eX []) [bb ab ae [] 0]:=by
 refine Ev.bQ Tryz.func175 rfl λa=>?_;refine bt rfl ay ?_;refine AK.cQ (Ce (oZ ae 0) rfl ae [] 0) [0] rfl ?_;refine aX [(7,af),(1000003,ab)] rfl ?_ ?_
 .simp
 refine AK.M4 iZ 4 (λi=>bu i 3||(bu 5 i&&bu i 9)||aB i 11) (λi=>[dp,dp,M5,.e (.one (.v (.slice ae 0 0))),.any,dp,dp,M5,.e (.one (.v (.slice ae 0 0))),dI (0:Nat),.any,dI (0:Nat)].getD i .any)
  (λ(_:Unit) i=>[dI (0:Nat),.any,.any,.any,.any,.any,dI (0-0),.any,dB af].getD (i-4) .any)
  (λ_=>[bb ab ae [] 0]) rfl rfl rfl rfl rfl rfl ?_ ?_ ?_ ?_
 .refine⟨.cT tok bE.nil rfl,.cT tok bE.nil rfl,.cT tok bE.nil rfl,?_,ay,.cT tok bE.nil rfl,.cT tok bE.nil rfl,.cT tok bE.nil rfl,?_,?_,ay,.cT tok bE.nil rfl,ay,ay⟩
  .exact .law (bF.fi (l:=0) tok rfl rfl rfl rfl rfl) rfl
  .exact .law (bF.fi (l:=0) tok rfl rfl rfl rfl rfl) rfl
  .exact .law (bF.uJ rfl rfl Tryz.underlying22 rfl (by decide)) rfl
 .intro _;refine⟨.cT tok bE.nil rfl,.cT tok bE.nil rfl,.cT tok bE.nil rfl,?_,ay,.cT tok bE.nil rfl,.cT tok bE.nil rfl,.cT tok bE.nil rfl,?_,?_,?_,.cT tok bE.nil rfl,?_,ay⟩
  .exact .law (bF.fi (l:=0) tok rfl rfl rfl rfl rfl) rfl
  .exact .law (bF.fi (l:=0) tok rfl rfl rfl rfl rfl) rfl
  .exact .law (bF.uJ rfl rfl Tryz.underlying22 rfl (by decide)) rfl
  .exact .eval (ds:=[]) tok bE.nil (obs:=[bA .i64 (((0:Nat):Int)-((0:Nat):Int))]) rfl (by simp[bA])
  .exact .eval (ds:=[(21,af)]) tok bE.nil (obs:=[decide ((0:Int)-0<((0:Nat):Int))=af]) rfl (by simp)
 .exact .z9 (.law (bF.Nn rfl rfl Tryz.underlying22 rfl (by decide)) rfl)
 .intro _;refine bt rfl ay ?_;exact cp.pr [0] rfl ay rfl rfl rfl An
def Kt{o:au}{a:ak->D}{σ:List aP}(h:o.op=.alloc 249):bF ag o a σ (.e (.one (.ptr σ.length 0))) (σ++[bb af ae [] 0]) :=
 bF.QY h (λw=>by simp[zeroValue,typeInfo,ey Tryz.type249,Tryz.t249]) (λw es=>by simp)
def Ku{o:au}{n:ak->D}{σ:List aP}{x y z:ak}{p:Array aj}{a b c:Int}(m:Int)(h:o.op=.call {callee:=.builtin .min,args:=#[x,y,z],argTypes:=p})(u:n x=dI a)(v:n y=dI b)(t:n z=dI c)(w:min (min a b) c=m)(r:bA .i64 m):bF ag o n σ (dI m) σ:=by
 refine .quiet λs q A d=>?_;have l:=d x;have k:=d y;have g:=d z;rw[u]at l;rw[v]at k;rw[t]at g;replace l:=eT l;replace k:=eT k;replace g:=eT g;generalize i:q x=vx at l;generalize j:q y=vy at k;generalize f:q z=vz at g;cases l;cases k;cases g;have e:(if c<(if b<a then b else a)then c else if b<a then b else a)=m:=by grind
 exact⟨.int .i64 m,by simp[aw,h,resolve,invoke,builtin,i,j,f,Builtin.min_,Builtin.min2,e],.int r,by simp[aw,h,resolve,invoke,builtin,i,j,f,Builtin.min_,Builtin.min2]⟩
def Kv(n:Nat)(l:2<=n)(p:n<=3):Ev X 145 [dS [46],dI n] [] (dS (List.replicate n 46)) []:=by
 refine Ev.bQ Tryz.func145 rfl λo=>?_;have a:bE X [(174,R4)]:=.cons t174 .nil;refine bl a [(13,af),(15,af),(18,af),(30,af),(33,af),(40,af),(44,af),(45,af),(46,af),(47,af),(48,af),(96,af),(1000035,ab)] rfl ?_ ?_
 .have h:(n:Int)=2∨(n:Int)=3:=by omega
  have e:(iR [46] 0).toNat=46:=rfl;simp[bA,e,h];omega
 refine AK.region ?_;refine AK.law (Kt rfl) rfl rfl ?_;refine cw a rfl ay ?_;refine AK.cP (Ge n (by omega) (by omega)) [0] rfl (λ_=>rfl) λj=>?_;obtain⟨⟨g,cap⟩,b⟩:=j;have b:n<=cap:=b;refine cw a rfl ay ?_;refine AK.cQ (El g cap [] [46] 0 (by simp) (by simp;omega)) [0] rfl ?_;refine cw a rfl ay ?_;refine AK.j1 (λk=>1<=k/\k<=n) (λk:Nat=>[(0,dS [46]),(7,dI n),(8,dI n),(9,.e (.one (.ptr 0 0)))]) (λk=>[bb ab (aa (g,cap)) (List.replicate k 46) (k-1)]) (λk=>n-k) 1 rfl ?_ rfl ?_ ⟨by omega,by omega⟩ ?_
 .simp
 .exact az.cat.2 ⟨rfl,ay⟩
 rintro k ⟨c,d⟩;refine cw a rfl ay ?_;refine AK.cQ (Ao ab (aa (g,cap)) (List.replicate k 46) (k-1) (by simp;omega) (by simp)) [0] rfl ?_;by_cases hk:k<n
 .refine bl a [(113,ab)] rfl ?_ ?_
  .simp;omega
  refine AK.cQ (Ao ab (aa (g,cap)) (List.replicate k 46) (k-1) (by simp;omega) (by simp)) [0] rfl ?_;refine cw a rfl ?_ ?_
  .simp[bA];omega
  refine AK.cQ (Ao ab (aa (g,cap)) (List.replicate k 46) (k-1) (by simp;omega) (by simp)) [0] rfl ?_;refine cw a rfl ay ?_;refine AK.law (Ku 1 rfl rfl rfl rfl (by simp;omega) (by simp[bA])) rfl rfl ?_;refine cw a rfl ay ?_;refine AK.cQ (Em g cap (List.replicate k 46) (k-1) (by simp;omega) (by omega)) [0] rfl ?_;have i:r7 (List.replicate k (46:UInt8)) ae (aa 1)=[46]:=by
   obtain⟨m,rfl⟩:∃m,k=m+1:=⟨k-1,by omega⟩
   simp[r7,List.replicate_succ]
  refine cw a rfl ?_ ?_
  .simp;omega
  rw[i];refine AK.cQ (El g cap (List.replicate k 46) [46] (List.replicate k 46).length (by simp) (by simp;omega)) [0] rfl ?_;have f:List.replicate k (46:UInt8)++[46]=List.replicate (k+1) 46:=by rw[List.replicate_succ']
  rw[f];refine cw a rfl ay (AK.gd (k+1) rfl ?_ rfl ?_ ⟨by omega,by omega⟩ (by omega))
  .simp
  .refine az.cat.2 ⟨?_,ay⟩;simp
 .refine bl a [(113,af)] rfl ?_ (AK.leave rfl rfl ?_)
  .simp;omega
  have e:k=n:=by omega
  subst e;refine cw a rfl ay ?_;refine AK.cQ (Em g cap (List.replicate k 46) (k-1) (by simp;omega) (by omega)) [0] rfl ?_;exact cw a rfl ay (AK.bw rfl)
def YQ:ee X 145 HC:=Vi (Kv 2 (by omega) (by omega)) (Kv 3 (by omega) (by omega))
def Og:ee X 119 nB:=Vj YQ
def Room(bf:Option (Nat×Nat))(n:Nat):Prop:=match bf with|none=>n=0|some (_,cap)=>n<=cap/\0<cap
def _root_.Go.AM.eb.re{P:aq}{ι b:Type}{X:Cx P}{f:aJ}{args:List D}{σ:List aP}{res:ι->D}{σ':ι->List aP}{a:b->D}{σ2:b->List aP}(h:eb X f args σ res σ')(g:ι->b)(c:∀i,a (g i)=res i)(d:∀i,σ2 (g i)=σ' i):eb X f args σ a σ2 :=
 ⟨h.1,λs vs h1 h2 S cs hS=>h.2 s vs h1 h2 S cs λi fr v s' k1 k2 k3 k4=>hS (g i) fr v s' k1 (by grind) (by grind) (by grind)⟩
def Kw(n:Nat)(a:n<=140737488355328):eb (ι:={bf:Option (Nat×Nat) // Room bf n}) X 175 [.e (.one (.ptr 0 0)),dI n] [bb af ae [] 0] (λ_=>.eX []) (λj=>[bb ab j.1 [] 0]):=by
 by_cases h:n=0
 .subst h;exact Ks.tc.re (λ_=>⟨ae,rfl⟩) (λ_=>rfl) (λ_=>rfl)
 .exact(Ge n (by omega) a).re (λp=>⟨aa p.1,p.2,by grind⟩) (λ_=>rfl) (λ_=>rfl)
def Eo(bf:Option (Nat×Nat))(xs s:Bs)(a:s.length<=9223372036854775807)(h:Room bf (xs.length+s.length)):Ev X 176 [.e (.one (.ptr 0 0)),dS s] [bb ab bf xs 0] (.eX [.one (.c (.int .i64 s.length)),.one (.c .iw)]) [bb ab bf (xs++s) 0]:=by
 cases bf with
 |none =>
  have h:xs.length+s.length=0:=h;grind[R3]
 |some p=>exact El p.1 p.2 xs s 0 a h.1
def shown(bf:Option (Nat×Nat))(xs:Bs):Nat:=match bf with|none=>0|some _=>xs.length
def Oh(bf:Option (Nat×Nat))(xs:Bs)(a:xs.length<=9223372036854775807)(h:Room bf xs.length):Ev X 178 [.e (.one (.ptr 0 0))] [bb ab bf xs 0] (dS xs) [bb ab bf xs (shown bf xs)]:=by
 cases bf with
 |none =>
  have h:xs.length=0:=h;have b:xs=[]:=jf h;subst b;exact Oe
 |some p=>exact Em p.1 p.2 xs 0 a (by have:=h.2;omega)
def Gf(l:List Bs)(i:Nat):Bs:=(l.take i).flatten
def Kx{l:List Bs}{i:Nat}(h:i<l.length):Gf l (i+1)=Gf l i++l.getD i []:=by unfold Gf;grind[List.take_add_one]
def Vk{l:List Bs}:Gf l l.length=l.flatten:=by simp[Gf]
def Ky{l:List Bs}(i:Nat):(Gf l i).length<=l.flatten.length:=by
 have e:l.flatten=(l.take i).flatten++(l.drop i).flatten:=by grind[List.take_append_drop]
 rw[e,c7];simp only[Gf];omega
def Oi(l:List Bs)(r:l.flatten.length<=140737488355328):Ev X 171 [cS.sl l,dS []] [] (dS l.flatten) []:=by
 refine Ev.bQ Tryz.func171 rfl λs=>?_;have m:=s.sl 0 rfl;by_cases g:l=[]
 .subst g;refine aX [(14,ab)] rfl ?_ (AK.bw rfl)
  .simp
 by_cases t:l.length=1
 .obtain⟨x,rfl⟩:=List.length_eq_one_iff.1 t;refine aX [(14,af),(16,ab)] rfl ?_ (AK.bw rfl ?_)
  .simp
  .simp[cS,mg.fn]
 have u:2<=l.length:=by
  have:l.length≠0:=by grind
  omega
 refine aX [(14,af),(16,af),(22,af)] rfl ?_ ?_
 .simp[g];omega
 refine AK.j1 (λi=>i<=l.length) (λi:Nat=>[(0,cS.sl l),(1,dS []),(5,dI (Gf l i).length),(39,cS.sl l),(40,dI l.length),(41,dI i)]) (λ_=>[]) (λi=>l.length-i) 0 rfl ?_ rfl ay (by omega) ?_
 .simp[Gf]
 .intro i hi;have v:=Ky (l:=l) i;by_cases h:i<l.length
  .have f:=Ky (l:=l) (i+1);rw[Kx h,c7]at f;refine aX [(42,ab),(49,af)] rfl ?_ (AK.gd (i+1) rfl ?_ rfl ay (by omega) (by omega))
   .have e:(l.getD (i:Int).toNat cS.bZ)=l.getD i []:=rfl;simp only[az,bA,e];grind
   .have e:(l.getD (i:Int).toNat cS.bZ)=l.getD i []:=rfl;rw[Kx h];rw[e];simp
  .have e:i=l.length:=by omega
   subst e;refine aX [(42,af),(1000018,ab)] rfl ?_ (AK.leave rfl rfl ?_)
   .simp
   refine aX [(1000018,ab)] rfl ay ?_;refine AK.region ?_;refine AK.law (Kt rfl) rfl rfl ?_;refine dc rfl ay ?_;rw[Vk];refine AK.cP (Kw l.flatten.length r) [0] rfl (λ_=>rfl) λj=>?_;obtain⟨bf,d⟩:=j;refine dc rfl ?_ ?_
   .exact⟨by omega,show(0:Int)<(l.length:Int) by omega⟩
   have room:∀n,n<=l.flatten.length->Room bf n:=λn o=>by
    cases bf with
    |none =>
     have:l.flatten.length=0:=d;grind
    |some p=>exact⟨iP o d.1,d.2⟩
   have k:Gf l 1=l.getD 0 []:=by rw[Kx (by omega)];simp[Gf]
   have b:=Ky (l:=l) 1;rw[k]at b;refine AK.cQ (Eo bf [] (l.getD 0 []) (by omega) (room _ (by grind))) [0] rfl ?_;refine dc rfl ?_ ?_
   .exact⟨by omega,show(1:Int)<=(l.length:Int) by omega⟩
   refine AK.j1 (λi=>i+1<=l.length) (λi:Nat=>[(1,dS []),(8,.e (.one (.ptr 0 0))),(63,.e (.one (.c (.sl af 1 (l.length-1) (lZ 1 (cS.fn l)))))),(64,dI (l.length-1:Nat)),(65,dI i)]) (λi=>[bb ab bf (Gf l (i+1)) 0]) (λi=>l.length-i) 0 rfl ?_ rfl ?_ (by omega) ?_
   .simp[c9]
   .refine az.cat.2 ⟨?_,ay⟩;rw[bC,k];exact rfl
   intro i hi;have q:=Ky (l:=l) (i+1);by_cases h:i+1<l.length
   .have a:=Ky (l:=l) (i+2);rw[Kx h,c7]at a;refine aX [(66,ab)] rfl ?_ ?_
    .exact⟨by omega,by omega,c8 (by omega)⟩
    refine AK.cQ (Eo bf (Gf l (i+1)) [] (by simp) (room _ (by grind))) [0] rfl ?_;rw[iO];refine bt rfl ay ?_;refine AK.cQ (Eo bf (Gf l (i+1)) (l.getD (1+i) []) (by grind) (room _ (by grind))) [0] rfl ?_;refine bt rfl ?_ (AK.gd (i+1) rfl ?_ rfl ?_ (by omega) (by omega))
    .simp only[az,bA];omega
    .simp
    .refine az.cat.2 ⟨?_,ay⟩;rw[Kx h,Nat.add_comm 1 i];exact rfl
   .have e:i+1=l.length:=by omega
    refine aX [(66,af)] rfl ?_ (AK.leave rfl rfl ?_)
    .exact iN (by omega)
    rw[e,Vk];refine bt rfl ay ?_;refine AK.cQ (Oh bf l.flatten (by omega) (room _ (by omega))) [0] rfl ?_;exact bt rfl ay (AK.bw rfl)
def HG{s:Bs}(h:b6 s=ab)(i:Nat)(hi:i<s.length):97<=cK s i/\cK s i<=122:=by have a:=List.all_eq_true.1 h (s.getD i 0) (by grind);simp only[eP,bR,ba]at a;unfold cK;omega
def Cm(s:Bs)(i:Nat)(a:b6 s=ab)(k:3<=i)(hi:i<=s.length)(f:s.length<=4000000):Ev X 148 [dS s,dI i] [] (dB (jv s i)) []:=by
 refine Ev.bQ Tryz.func148 rfl λh=>?_;have e:=HG a (i-1) (by omega);have j:=HG a (i-2) (by omega);have g:=HG a (i-3) (by omega);have c:((iR s ((i:Int)-1)).toNat:Int)=cK s (i-1):=by grind[cM]
 have b:((iR s ((i:Int)-2)).toNat:Int)=cK s (i-2):=by grind[cM]
 have d:((iR s ((i:Int)-3)).toNat:Int)=cK s (i-3):=by grind[cM]
 refine bt rfl ?_ (AK.bw rfl ?_)
 .simp only[az,bA,c,b,d];omega
 .simp only[az,az.cat,c,b,d,jv,dl,aE];grind
def HH:ee X 148 (oQ aS aI (λs i=>dB (jv s i.toNat)) λs i=>[b6 s=ab,3<=i,i<=s.length,s.length<=4000000]):=.sv λs i h=>by
 obtain⟨b,c,d,a⟩:=h;obtain⟨m,rfl⟩:∃m:Nat,i=m:=⟨i.toNat,by omega⟩
 exact Cm s m b (by omega) (by omega) a
def xe{o:au}{k:ak->D}{σ:List aP}{x y:ak}{j:Array aj}{a b:Int}(m:Int)(h:o.op=.call {callee:=.builtin .min,args:=#[x,y],argTypes:=j})(p:k x=dI a)(q:k y=dI b)(r:min a b=m)(n:bA .i64 m):bF ag o k σ (dI m) σ:=by
 refine .quiet λs l t c=>?_;have i:=c x;have g:=c y;rw[p]at i;rw[q]at g;replace i:=eT i;replace g:=eT g;generalize d:l x=vx at i;generalize f:l y=vy at g;cases i;cases g;have e:(if b<a then b else a)=m:=by grind
 exact⟨.int .i64 m,by simp[aw,h,resolve,invoke,builtin,d,f,Builtin.min_,Builtin.min2,e],.int n,by simp[aw,h,resolve,invoke,builtin,d,f,Builtin.min_,Builtin.min2]⟩
theorem KJ{t:Bs}{f j:Nat}(h:t.length<=f+3+j)(b:j<=5):tG t f (5-j)=min (f+8) t.length:=by
 rcases cD j 5 with a|a
 .obtain⟨k,hk⟩:∃k,5-j=k+1:=⟨4-j,by omega⟩
  rw[hk];simp only[tG];grind
 .rw[show 5-j=0 by omega];rfl
def HI(t:Bs)(f:Nat)(m:b6 t=ab)(n:f<=t.length)(o:t.length<=4000000):Ev X 128 [dS t,dI f] [] (dI (cutAt t f)) []:=by
 refine Ev.bQ Tryz.func128 rfl λp=>?_;have a:bE X [(148,oQ aS aI (λs i=>dB (jv s i.toNat)) λs i=>[b6 s=ab,3<=i,i<=s.length,s.length<=4000000])]:=.cons HH .nil;refine cf a rfl ?_ ?_
 .simp[bA];omega
 refine AK.j1 (λj=>j<=5/\tG t f (5-j)=cutAt t f) (λj:Nat=>[(0,dS t),(1,dI f),(5,dI (f+3+j))]) (λ_=>[]) (λj=>5-j) 0 rfl ?_ rfl ay ⟨by omega,rfl⟩ ?_
 .simp
 rintro j ⟨q,b⟩;by_cases h:j<5/\f+3+j<t.length
 .obtain⟨k,hk⟩:∃k,5-j=k+1:=⟨4-j,by omega⟩
  have g:f+(7-k)=f+3+j:=by omega
  rw[hk]at b;simp only[tG,g]at b;rw[aZ (by omega)]at b;have e:((f:Int)+3+j).toNat=f+3+j:=by omega
  cases c:jv t (f+3+j)with
  |true =>
   rw[c,bm rfl]at b;refine aW a [(11,ab),(16,ab),(22,ab)] rfl ?_ (AK.iC (cp.zero rfl ?_))
   .simp only[az,bA,e,c,m,ba,eq_self,aG,aE];omega
   .simp[<-b]
  |false =>
   rw[c,aZ (by simp)]at b;refine aW a [(11,ab),(16,ab),(22,af)] rfl ?_ (AK.gd (j+1) rfl ?_ rfl ay ⟨by omega,by grind⟩ (by omega))
   .simp only[az,bA,e,c,m,ba,eq_self,aG,aE];omega
   .simp;omega
 .have e:cutAt t f=min (f+8) t.length:=by
   rw[<-b];rcases cD j 5 with d|d
   .grind [KJ]
   .rw[show 5-j=0 by omega];rfl
  have l:bA .i64 ((min (f+8) t.length:Nat):Int):=by simp only[bA];omega
  rcases cD j 5 with d|d
  .refine aW a [(11,ab),(16,af)] rfl ?_ (AK.leave rfl rfl ?_)
   .simp only[az,bA,ba,bO];omega
   refine cf a rfl ?_ ?_
   .simp only[az,bA];omega
   refine AK.law (xe ((min (f+8) t.length:Nat):Int) rfl rfl rfl (by omega) l) rfl rfl ?_;refine cf a rfl ay (AK.bw rfl ?_);simp[e]
  .refine aW a [(11,af)] rfl ?_ (AK.leave rfl rfl ?_)
   .simp only[az,bA,ba,bO];omega
   refine cf a rfl ?_ ?_
   .simp only[az,bA];omega
   refine AK.law (xe ((min (f+8) t.length:Nat):Int) rfl rfl rfl (by omega) l) rfl rfl ?_;refine cf a rfl ay (AK.bw rfl ?_);simp[e]
def Sd:ee X 128 (oQ aS aI (λs i=>dI (cutAt s i.toNat)) λs i=>[b6 s=ab,0<=i,i<=s.length,s.length<=4000000]):=.sv λs i h=>by
 obtain⟨b,c,d,a⟩:=h;obtain⟨m,rfl⟩:∃m:Nat,i=m:=⟨i.toNat,by omega⟩
 exact HI s m b (by omega) a
abbrev Qi(t:Bs):C:=.fn (.func 127) [] [.rp [.str t]]
theorem Oq(t:Bs):Ev X 80 [dS t] [] (.e (.one (.c (Qi t)))) []:=by refine Ev.bQ Tryz.func80 rfl λa=>?_;refine qz [] 5 rfl ay ?_;refine AK.freeze 1 0 rfl rfl rfl ?_;exact bt rfl ay (AK.bw rfl)
def HJ{T:Type}(text:Bs)(o:b6 text=ab)(p:text.length<=4000000){N0:Nat}{φ0:Fr}{g:Loop}(b B1 B2:T->aP)(R:Nat->T->Prop)(d:T)(m:R 0 d)(hB:∀t,b t≠.qP/\B1 t≠.qP/\B2 t≠.qP)(xf:∀f t,f<text.length->R f t->Yields (ι:={a:T // R (cutAt text f) a}) X 3 [dI f,dI (cutAt text f)] [b t,B1 t,B2 t,.loop N0 φ0 g] ab (λa=>[b a.1,B1 a.1,B2 a.1,.loop N0 φ0 g])):
  eb (ι:={t:T // R text.length t}) X 127 [.e (.one (.ref 3)),.e (.one (.c (.rp [.str text])))] [b d,B1 d,B2 d,.loop N0 φ0 g] (λ_=>.eX []) (λi=>[b i.1,B1 i.1,B2 i.1,.loop N0 φ0 g]):=by
 refine eb.JY Tryz.func127 rfl rfl rfl (AK.of_code ?_);have j:bE X [(128,oQ aS aI (λs i=>dI (cutAt s i.toNat)) λs i=>[b6 s=ab,0<=i,i<=s.length,s.length<=4000000])]:=.cons Sd .nil;refine cf j rfl ay ?_;show AW X _ (.loop _) _ _ _;refine AW.loop (S:=T×Nat) (λx=>x.2<=text.length/\R x.2 x.1) (λx=>[(0,.e (.one (.ref 3))),(1,.e (.one (.c (.rp [.str text])))),(3,dI x.2)]) (λx=>[b x.1,B1 x.1,B2 x.1,.loop N0 φ0 g]) (λx=>text.length-x.2) (d,0) ⟨lk _,m⟩ (cA rfl (by simp)) rfl ?_;rintro⟨t,f⟩ ⟨n,k⟩;simp only at n k;refine AK.of_code ?_;by_cases h:f<text.length
 .have l:=nC text f h;refine aW j [(8,ab)] rfl ?_ ?_
  .simp only[az,o,ba,eq_self,aG,aE];omega
  refine AK.yield (xf f t h k) rfl rfl rfl rfl rfl rfl λa=>?_;refine aW j [(16,af)] rfl ?_ ?_
  .simp
  refine⟨(a.1,cutAt text f),⟨l.2.1,a.2⟩,?_,cA rfl (by simp),rfl⟩;grind
 .have e:f=text.length:=by omega
  subst e;refine aW j [(8,af)] rfl ?_ ?_
  .simp
  refine AK.J3 rfl rfl ?_;exact⟨⟨t,k⟩,.inr rfl,rfl,rf (hB t).1 (rf (hB t).2.1 (rf (hB t).2.2 rfl)),[],.eX [],[],rfl,rfl,rfl,ay⟩
def Tl{P:aq}{o:au}{i:ak->D}{σ:List aP}{op:BinOp}{t ty:aj}{x:ak}(h:o.op=.binOp op t x (.const (.pointer ae)) ty){e:aj}(g:P.underlying t=aa (.pointer e)){c:Bool}{l:Nat}{E:aj}{lt rt:Tr}{a b:Int}(k:i x=.e (.one (.ref l)))(p:dt l σ=aa (.b8 (nb E (.nd lt a b rt))))(n:i (.const (.pointer ae))=.e (.one (.c .hY)))(q:ja op af=aa c):bF P o i σ (.e (.one (.c (.bool c)))) σ:=by
 refine xb h g (b:=af) ?_ q;intro s u v y j d;rw[k]at j;rw[n]at d;replace d:=eT d;cases d;obtain⟨_,L,m,rfl,_⟩:=(j:gn σ s u (.ref l));obtain⟨_,⟨b,_,_,_,_,z,_⟩,_⟩:=y.box l _ L (b5 p) m;rw[z];have r:(Op.equal t (.pointer (aa ⟨b,0,ae⟩)) (.pointer ae)).run P s.w=.ok af s.w:=by show(aY (9999+1) t _ _).run P s.w=_;unfold aY;simp[underlying,g]
 have f:∀es,(Op.equal t (.pointer (aa ⟨b,0,ae⟩)) (.pointer ae)).events P s.w es=es:=λes=>by show(aY (9999+1) t _ _).events P s.w es=es;unfold aY;simp[underlying,g]
 exact⟨_,ae,rfl,rfl,rfl,by cases op<;>simp[eqGuard],λes=>by cases op<;>simp[eqGuard],r,f⟩
abbrev Pk(a b:Int):D:=.e (.agg [.c (.int .i64 a),.c (.int .i64 b)])
abbrev I1:aj:=142
def A4(a b:Int)(t:Tr):∃l x y r,t.put a b=.nd l x y r:=by
 cases t with
 |nil=>exact⟨_,_,_,_,rfl⟩
 |nd l x y r =>
  simp only[Tr.put];split
  .grind
  split<;>exact⟨_,_,_,_,rfl⟩
def Mk:∀(ks:List Nat)(j:Nat),j<0->ks[j]?=aa j:=λ_ j a=>absurd a (by omega)
def jX:∀j,j<1->([0]:List Nat)[j]?=aa j:=λj a=>by grind
def A5(a b:Int)(u:bA .i64 a)(r:bA .i64 b):∀t:Tr,Ev X 79 [.e (.one (yF t 0)),Pk a b] (vr I1 t) (.e (.one (.ref 0))) [.b8 (nb I1 (t.put a b))]
 |.nil=>by refine Ev.bQ Tryz.func79 rfl λv=>?_;refine bt rfl ay ?_;refine AK.law (tF rfl Tryz.underlying73 rfl rfl rfl) rfl rfl ?_;refine bt rfl ay ?_;refine AK.jo 4 1 0 0 (lt:=.nil) (rt:=.nil) rfl rfl (λh=>absurd rfl h) (λh=>absurd rfl h) (λh=>absurd rfl h) ?_;exact AK.db [1] rfl (by simp) rfl rfl rfl (Mk _)
 |.nd lt x y rt=>by
  have o:=A5 a b u r lt;have i2:=A5 a b u r rt;obtain⟨f,g,c,i,s⟩:=A4 a b lt;obtain⟨k,j,m,l,p⟩:=A4 a b rt;have q:(Tr.nd lt x y rt).put a b=if a<x then .nd (lt.put a b) x y rt else if x<a then .nd lt x y (rt.put a b)else .nd lt a b rt:=rfl;rw[q];rw[s]at o⊢;rw[p]at i2⊢;have c1:bE X [(79,yI [.e (.one (yF lt 0)),Pk a b] (vr I1 lt) (.e (.one (.ref 0))) [.b8 (nb I1 (.nd f g c i))])]:=.cons (Cl o) .nil;have c2:bE X [(79,yI [.e (.one (yF rt 0)),Pk a b] (vr I1 rt) (.e (.one (.ref 0))) [.b8 (nb I1 (.nd k j m l))])]:=.cons (Cl i2) .nil;clear o i2 q s p;refine Ev.bQ Tryz.func79 rfl λv=>?_;refine bt rfl ay ?_;refine AK.law (Tl rfl Tryz.underlying73 rfl rfl rfl rfl) rfl rfl ?_;refine bt rfl ay ?_;refine AK.Ko 0 0 rfl rfl ?_;by_cases d:a<x
  .rw[bm d];cases lt<;>cases rt<;>refine bl c1 [(15,ab)] rfl (by simp only[az,ba,aG,aE];and_intros<;>first|rfl|exact d) ?_
   .refine AK.jo 4 0 2 9 (lt:=.nd f g c i) (rt:=.nil) rfl rfl (λ_=>rfl) (λh=>absurd rfl h) (λ_ h=>absurd rfl h) ?_;exact AK.db [0] rfl (by simp) rfl rfl rfl jX
   .refine AK.jo 4 0 3 2 (lt:=.nd f g c i) (rt:=_) rfl rfl (λ_=>rfl) (λ_=>rfl) (λ_ _=>by decide) ?_;exact AK.db [0] rfl (by simp) rfl rfl rfl jX
   .refine AK.jo 4 0 2 9 (lt:=.nd f g c i) (rt:=.nil) rfl rfl (λ_=>rfl) (λh=>absurd rfl h) (λ_ h=>absurd rfl h) ?_;exact AK.db [0] rfl (by simp) rfl rfl rfl jX
   .refine AK.jo 4 0 2 3 (lt:=.nd f g c i) (rt:=_) rfl rfl (λ_=>rfl) (λ_=>rfl) (λ_ _=>by decide) ?_;exact AK.db [0] rfl (by simp) rfl rfl rfl jX
  rw[aZ d];by_cases n:x<a
  .rw[bm n];cases lt<;>cases rt<;>refine bl c2 [(15,af),(33,ab)] rfl (by simp only[az,ba,bO,aG,aE];and_intros<;>first|rfl|exact d|exact n) ?_
   .refine AK.jo 4 0 9 2 (lt:=.nil) (rt:=.nd k j m l) rfl rfl (λh=>absurd rfl h) (λ_=>rfl) (λh=>absurd rfl h) ?_;exact AK.db [0] rfl (by simp) rfl rfl rfl jX
   .refine AK.jo 4 0 9 2 (lt:=.nil) (rt:=.nd k j m l) rfl rfl (λh=>absurd rfl h) (λ_=>rfl) (λh=>absurd rfl h) ?_;exact AK.db [0] rfl (by simp) rfl rfl rfl jX
   .refine AK.jo 4 0 2 3 (lt:=_) (rt:=.nd k j m l) rfl rfl (λ_=>rfl) (λ_=>rfl) (λ_ _=>by decide) ?_;exact AK.db [0] rfl (by simp) rfl rfl rfl jX
   .refine AK.jo 4 0 2 3 (lt:=_) (rt:=.nd k j m l) rfl rfl (λ_=>rfl) (λ_=>rfl) (λ_ _=>by decide) ?_;exact AK.db [0] rfl (by simp) rfl rfl rfl jX
  .rw[aZ n];cases lt<;>cases rt<;>refine bJ [(15,af),(33,af)] rfl (by simp only[az,bO,aG,aE];and_intros<;>first|rfl|exact d|exact n) ?_
   .refine AK.jo 4 0 9 9 (lt:=.nil) (rt:=.nil) rfl rfl (λh=>absurd rfl h) (λh=>absurd rfl h) (λh=>absurd rfl h) ?_;exact AK.db [0] rfl (by simp) rfl rfl rfl jX
   .refine AK.jo 4 0 9 2 (lt:=.nil) (rt:=_) rfl rfl (λh=>absurd rfl h) (λ_=>rfl) (λh=>absurd rfl h) ?_;exact AK.db [0] rfl (by simp) rfl rfl rfl jX
   .refine AK.jo 4 0 2 9 (lt:=_) (rt:=.nil) rfl rfl (λ_=>rfl) (λh=>absurd rfl h) (λ_ h=>absurd rfl h) ?_;exact AK.db [0] rfl (by simp) rfl rfl rfl jX
   .refine AK.jo 4 0 2 3 (lt:=_) (rt:=_) rfl rfl (λ_=>rfl) (λ_=>rfl) (λ_ _=>by decide) ?_;exact AK.db [0] rfl (by simp) rfl rfl rfl jX
end
section
open Go.Proofs Go.Conc Go.Conc.Lib Go.ConcR.Gen
open Go.ConcN (WgLive PayAt Has RW AtR0)
open Go.ConcN.Gen
open Go.ConcR (KK WgAt stA smA rd wr mk Payload DC0)
def KP:KM=#[{dst:=ae,op:=.defer {callee:=.value (.func 168),args:=#[.tmp 0],argTypes:=#[238]},type:=0,pos:= "l12_snap.go:81",after:=#[],guard:=ae}]:=by kernel_rfl
def bW(a:ah):aR:={baseD 167 with defers:=[dcall 168 #[a]]}
abbrev tW(v0 v1 v2 v3 v4 v5:ah):Array ah:=#[v0,v1,v2,v3,v4,v5,ai,ai,ai,ai,ai,ai,ai]
def Sg(v0 v1 v2 v3 v4 v5:ah)(w:aA):Goes ag af (λ_ _=>True) DC0 (λg _=>g=G ((bW v0).aT ⟨tW v0 v1 v2 v3 v4 v5,[]⟩ [.code (.region 1 KN ab)]) [uP]) 8 (born ag (xi #[v0,v1,v2,v3,v4,v5])) w:=by
 have b:True:=ay;have a:True->True->True:=λ_ _=>trivial;refine Goes.step rfl (λw1 h1=>?_);rw[HN];simp only[goes_go];refine⟨⟨rfl,rfl⟩,?_⟩;clear h1;rw[KP]
 u_c aD a b
 u_reg a b
 u_defer a b
 u_c aC a b
 exact Goes.stop λ_ _=>rfl
def YV(T:Array ah):QuitsD ag 2 0 (G {(baseD 167).at ⟨T,[]⟩ []with mode:=.returning} [uP]):=by
 have a:Tryz.f167.results=#[]:=by kernel_rfl
 refine QuitsD.ctl (g':=G uP []) rfl (λw=>?_) ?_
 .simp[G,aH,unwind,doReturn,results,Frame.at,baseD,uP,Tryz.func167,a,seen,GStep.after,goexitEntry]
 refine QuitsD.ctl (g':={G uP []with status:=.finished}) rfl (λw=>?_) ⟨rfl,rfl⟩;simp[G,aH,unwind,uP,goexitEntry,Frame.catches];rfl
section
variable {Y:Lay}{n:Nat}{val:Nat->Nat->ah}
def tailW(x:Nat)(d:Y.kc=2)(T:Array ah)(w:aA)(a:WgLive 238 Y.Wg w/\Has Y.C (Y.kc*x+1-1) (val x 0) w):
  ∃m,Goes ag af (RW 238 Y.Wg Y.C (2*n) 0 (Y.kc*x+1-1)) DC0 (AtR0 ag 238 Y.Wg Y.C (2*n) 0 (Y.kc*x+1) (val x 0)) m (G ((bW (.pointer (aa ⟨Y.Wg,0,ae⟩))).aT ⟨T,[]⟩ [.inRegion uO.toArray []]) [uP]) w:=by
 refine⟨26,?_⟩;have e:(bW (.pointer (aa ⟨Y.Wg,0,ae⟩))).aT ⟨T,[]⟩ [.inRegion uO.toArray []]=(baseD 167).at ⟨T,[dcall 168 #[.pointer (aa ⟨Y.Wg,0,ae⟩)]]⟩ [.inRegion uO.toArray []]:=rfl;rw[e]
 u_c aC kn_rely a
 u_c stepG_end kn_rely a
 u_in kn_rely a
 rw[stepG_unwind_enter (c:=body_done Qk) rfl Cp.f_done (by kernel_rfl) (by kernel_rfl)];simp only[goes_go];refine⟨by u_nil,?_⟩;have b:=Vs (P:=ag) (L:=Qk) (Wg:=Y.Wg) (C:=Y.C) (n:=2*n) (Low:=0) (x:=Y.kc*x+1) (val:=val x 0) (c:={(baseD 167).at ⟨T,[]⟩ []with mode:=.returning}) (cs:=[uP]) Cp rfl (YV T) _ a;exact b
def rd_str{M:Mem}{v:ah}{l:Bs}(h:Rd M v (.str l)):v=.string ⟨l.toArray⟩:=by
 cases h with
 |str h1 h2=>rw[<-h1]
def rd_bool{M:Mem}{v:ah}{b:Bool}(h:Rd M v (.bool b)):v=.bool b:=by cases h;rfl
def TS:au:=oW ae (.store 241 (.tmp 12) (.tmp 11)) 0 #[⟨6,.data⟩,⟨5,.data⟩,⟨5,.chain⟩,⟨0,.phase⟩,⟨1,.phase⟩,⟨2,.phase⟩,⟨3,.phase⟩,⟨4,.phase⟩,⟨5,.phase⟩]
def Vt{x:Nat}(hx:x<n)(H:Y.kc=2){k:Int}{ps:List bG}{I:Int}(B:val x 0=.string ⟨((dK k ps I).getD []).toArray⟩)(z:val x 1=.bool (dK k ps I).isSome){s:St}{T:Array ah}(p:dj [] s (T.getD 12 ai) (xW k ps I n x Y.C 6))(g:dj [] s (T.getD 11 ai) (Xo (dK k ps I))):
  JK ag 238 Y (2*n) val x (G ((bW (.pointer (aa ⟨Y.Wg,0,ae⟩))).aT ⟨T,[]⟩ [.inRegion uO.toArray [7]]) [uP]) s:=by
 have p:T.getD 12 ai=.pointer (aa ⟨Y.C,x*2,ae⟩):=Rd.dZ p;have g:T.getD 11 ai=.agg #[val x 0,val x 1]:=by
  obtain⟨vs,h1,d⟩:=g
  match vs,d with
  |[],d=>exact d.elim
  |[_],d=>exact d.2.elim
  |_::_::_::_,d=>exact d.2.2.elim
  |[u0,u1],d =>
   rw[h1,rd_str d.1,rd_bool d.2.1,B,z]
 refine⟨rfl,λw1 hr Ry KQ=>?_⟩;obtain⟨cs,c,R⟩:=Ry;have M:Y.kc*x=x*2:=by grind
 have A:∀v∈[val x 0,val x 1],v.oneCell'=ab:=by
  intro v P;simp only[eE,n5,mo]at P;rcases P with rfl|rfl
  .rw[B];rfl
  .rw[z];rfl
 have r:x*2+0+[val x 0,val x 1].length<=cs.size:=by grind
 have l:=run_storeCells_at ag Y.C (x*2) 241 [val x 0,val x 1] 0 cs w1 c r A;simp only[iq,eU,gx,bC]at l;generalize q:(cs.toList.take (x*2)++[val x 0,val x 1]++cs.toList.drop (x*2+2)).toArray=new at l;have S:new.size=cs.size:=by grind
 have w:=setRow_heap w1 Y.C cs new 241 (0,0) c;have y:∀o,(w1.setRow Y.C new).cell? ⟨Y.C,o,ae⟩=new[o]?:=λo=>cell_setRow_same w1 Y.C o cs new 241 (0,0) c;have J:∀o,w1.cell? ⟨Y.C,o,ae⟩=cs[o]?:=λo=>by simp[aV,c]
 have X:∀i,i<2->new[x*2+i]?=aa (val x i):=by
  intro i hi;rw[<-q];have L:(cs.toList.take (x*2)).length=x*2:=by grind
  rw[lS];simp only[ik];rw[gw (by omega),L]
  match i,hi with
  |0,_=>simp
  |1,_=>simp
 have Q:∀o,(o<x*2∨x*2+2<=o)->new[o]?=cs[o]?:=by
  intro o K;rw[<-q];have L:(cs.toList.take (x*2)).length=x*2:=by grind
  rw[lS];simp only[ik];rcases K with K|K
  .grind
  .rw[gw (by omega),L,gw (by grind)];simp only[eU,gx,oU];rw[show x*2+2+(o-x*2-(0+1+1))=o by omega];simp
 have D:(Value.agg #[val x 0,val x 1]).cells=#[val x 0,val x 1]:=rfl;have F:(aw (⟨T,[]⟩:Act).eval TS).run ag w1=.ok .skip (w1.setRow Y.C new):=by have u:(⟨T,[]⟩:Act).eval (.tmp 12)=.pointer (aa ⟨Y.C,x*2,ae⟩):=p;have t:(⟨T,[]⟩:Act).eval (.tmp 11)=.agg #[val x 0,val x 1]:=g;simp[aw,TS,oW,u,t,Instr.storeAt,bq,storeVar,(tok 241 i241 rfl).run_sizeOf,i241,D,l]
 have f:∀e∈(aw (⟨T,[]⟩:Act).eval TS).events ag w1 #[],∃j,j<2/\e=Hb Y.C (x*2+j):=by
  intro N f;have u:(⟨T,[]⟩:Act).eval (.tmp 12)=.pointer (aa ⟨Y.C,x*2,ae⟩):=p;have t:(⟨T,[]⟩:Act).eval (.tmp 11)=.agg #[val x 0,val x 1]:=g;have e:aw (⟨T,[]⟩:Act).eval TS=(do storeVar 241 ⟨Y.C,x*2,ae⟩ (.agg #[val x 0,val x 1]);pure .skip):=by simp[aw,TS,oW,u,t,Instr.storeAt,bq]
  rw[e]at f;have E:N∈(storeCells ⟨Y.C,x*2,ae⟩ [val x 0,val x 1]).events ag w1 #[]:=by simp only[storeVar,aM,(tok 241 i241 rfl).run_sizeOf,i241,D,aO,events_sizeOf,dq,b7,bL,bU,Sem.events_pure]at f;simpa[l]using f
  rcases dE [val x 0,val x 1] 0 cs w1 #[] c r A N E with U|⟨j,_,Z,rfl⟩
  .grind
  grind
 have m:WgLive 238 Y.Wg (w1.setRow Y.C new):=by
  obtain⟨st,O,h⟩:=KQ;refine⟨st,O,?_⟩;show(w1.setRow Y.C new).heap[Y.Wg]?=_;rw[setRow_other w1 Y.C Y.Wg new ?_]
  .exact h
  .intro e;have d:w1.heap[Y.Wg]?=aa (Go.ConcR.wgBlock 238 st O):=h;rw[e,c]at d;simp[Go.ConcR.wgBlock]at d;exact absurd d.2 (by decide)
 refine⟨_,w1.setRow Y.C new,_,FA (b:=bW (.pointer (aa ⟨Y.Wg,0,ae⟩))) (a:=⟨T,[]⟩) (k:=[]) (ops:=uO.toArray) (i:=7) (rest:=[]) (o:=TS) rfl rfl (by simp[bW,baseD]) F,?_,?_,?_⟩
 .refine⟨rfl,rfl,rfl,by simp,λb V=>setRow_other w1 Y.C b new V,⟨new,w,by grind⟩,λo K=>?_,λi hi=>?_⟩
  .grind
  .rw[H]at hi;rw[y,M];grind
 .intro e W;obtain⟨j,Z,rfl⟩:=f e (Go.Conc.mem_seen W);exact⟨x*2+j,rfl,by omega,by omega⟩
 .exact tailW x H T _ ⟨m,by show(w1.setRow Y.C new).cell? _=_;grind⟩
def worker{k:Int}(i:ee (Cx.work ag) 169 (l7 k)){x:Nat}(q:x<n)(l:Y.kc=2){ps:List bG}{d:Int}(f:val x 0=.string ⟨((dK k ps d).getD []).toArray⟩)(e:val x 1=.bool (dK k ps d).isSome){s:St}(E:aF [] s)(F:s.β=[]){v1 v2 v3 v4 v5:ah}(v:Rd s.M v1 (.rp [.int .i64 k]))(p:Rd s.M v2 (.rp [.sl af 2 ps.length (cP.fn ps)]))(u:Rd s.M v3 (.rp [.int .i64 d]))(r:Rd s.M v4 (.rp [.val (.slice (aa ⟨Y.C,0,ae⟩) n n)]))(o:Rd s.M v5 (.rp [.int .i64 x])):
  er (Cx.work ag) E0 (JK ag 238 Y (2*n) val x) (born ag (xi #[.pointer (aa ⟨Y.Wg,0,ae⟩),v1,v2,v3,v4,v5])) s:=by
 refine er.goes (X:=Cx.work ag) (R:=λ_ _=>True) (D:=DC0) (Stop:=λg _=>g=G ((bW (.pointer (aa ⟨Y.Wg,0,ae⟩))).aT ⟨tW (.pointer (aa ⟨Y.Wg,0,ae⟩)) v1 v2 v3 v4 v5,[]⟩ [.code (.region 1 KN ab)]) [uP])
  (λb=>aF [] b/\b.M=s.M) (λb s2 h m=>⟨h.1.rely m,m.M.trans h.2⟩) (λ_ _ _ _=>trivial) ?_ (λb h=>ck.wB h.1.mem) ?_ 8 _ s ⟨E,rfl⟩ (Sg _ _ _ _ _ _ _)
 .rintro b es h w' ⟨rfl,rfl⟩;exact⟨rfl,.inl (.quiet h.1)⟩
 .rintro g b ⟨j,y⟩ rfl;rw[Ou];refine fA.toE (λ_ _ _ h=>h) ?_;refine(Vr i ps d n x Y.C q (.pointer (aa ⟨Y.Wg,0,ae⟩))).region (by kernel_rfl) (by simp[bW,baseD]) ⟨by simp[tW],⟨[],ay⟩,λt=>?_⟩ rfl j λs2 a w c B z st=>.stop ?_
  .rw[<-y]at v p u r o
   match t with
   |0=>exact Rd.val rfl
   |1=>exact v
   |2=>exact p
   |3=>exact u
   |4=>exact r
   |5=>exact o
   |t+6=>trivial
  .obtain⟨T,A⟩:=a;obtain rfl:A=[]:=B;exact Vt q l f e (c 12) (c 11)
end
end
section
open Go.Proofs Go.Conc Go.Conc.Lib
open Go.ConcN (WgLive PayAt Has RW AtR0)
open Go.ConcR (KK WgAt stA smA rd wr mk Payload DC0)
def xj:Code->Code|.seq a _=>a|c=>c
def kY:Code->Code|.seq _ a=>a|c=>c
def Vu:Code->Code|.block _ a=>a|c=>c
def YW:Code->Code|.loop a=>a|c=>c
def Si:Code->Array au|.region _ o _=>o|_=>#[]
noncomputable def ED:Code:=(Tryz.f140.body).getD .skip
noncomputable def iD:Code:=YW (Vu (kY (xj (kY (kY (kY ED))))))
noncomputable def cR4:Code:=xj iD
noncomputable def Sj:Code:=Vu (xj (kY (kY iD)))
noncomputable def cR5:Code:=xj Sj
noncomputable def Ax:Array au:=Si (xj (kY Sj))
noncomputable def yd:Array au:=Si (kY (kY Sj))
noncomputable def M8:Code:=kY (kY (kY iD))
noncomputable def nD:Code:=kY (kY (kY (kY ED)))
noncomputable def ye:Array au:=Si (xj nD)
noncomputable def qH:Code:=kY nD
def Cq:iD=.seq cR4 (.seq (.cond (.tmp 21) .skip (.exit 0)) (.seq (.block 1 (.seq cR5 (.seq (.region 6 Ax af) (.region 7 yd af)))) M8)):=by kernel_rfl
def KR:nD=.seq (.region 9 ye af) qH:=by kernel_rfl
def NQ(j:Fr)(σ1:List aP):Post:=λe φ σ=>e=.normal/\og φ j/\σ=σ1
structure At(σ0:List aP)(s0:St)(φ:Fr)(σ:List aP)(a:Act)(s:St):Prop where
 fr:cm 45 σ s φ a
 hh:aF σ s
 st:cR σ0 s0 σ s
section
variable {σ0:List aP}{s0:St}{φ j:Fr}{σ σ1:List aP}{a:Act}{s:St}
def At.rely(h:At σ0 s0 φ σ a s){d:St}(c:ck s d):At σ0 s0 φ σ a d:=⟨h.fr.rely c h.hh,h.hh.rely c,h.st.trans c.stepW⟩
structure M9(b:Nat)(s:St):Prop where
 own:¬s.own b
 β:∀L∈s.β,b∉L.bs
 M:∀o,s.M b o=ae
 lt:b<s.w.heap.size
def M9.step{b:Nat}(h:M9 b s0)(st:cR σ0 s0 σ s):M9 b s :=
 ⟨by rw[st.own];exact h.own,λL d e=>by
  rcases st.vb L d b e with h1|⟨c,f,h1⟩
  .have:=h.lt;omega
  .exact h.β c f h1,λo=>by rw[st.iU b h.lt h.β];exact h.M o,cU h.lt st.size⟩
def At.apart{Wg:Nat}(e:M9 Wg s0):Apart Wg (At σ0 s0 φ σ a) :=
 ⟨λ_ _ h d=>h.rely d,λ_ h=>⟨σ,h.hh⟩,λ_ h=>let c:=e.step h.st;⟨c.own,c.β,c.M⟩⟩
variable {X:Cx ag}{S:av->St->Prop}{b:aR}{k:List Item}{cs:List aR}
def At.ctl(h:At σ0 s0 φ σ a s){g g':av}(d:g.status=.running)(e:∀w,aH ag X.main g w=.go g' w #[])(kk:∀c,At σ0 s0 φ σ a c->fA X S g' c):fA X S g s :=
 .ctl h.hh d e λc h1=>kk c (h.rely h1)
def At.code(h:At σ0 s0 φ σ a s)(i:b.kind≠.early){c:Code}(l:AW X 45 c (NQ j σ1) φ σ)(kk:∀a1 s1,At σ0 s0 j σ1 a1 s1->fA X S (G (b.aT a1 k) cs) s1):fA X S (G (b.aT a (.code c::k)) cs) s:=by refine l s a h.fr h.hh b k cs S i ?_;rintro e φ' σ' s' a' ⟨rfl,hl,rfl⟩ g f d;exact kk a' s' ⟨g.le hl,f,h.st.trans d⟩
end
def fA.live{Wg:Nat}{E:St->St->Array Event->Prop}{S:av->St->Prop}{g:av}{s:St}(h:fA (Cx.lead ag 238 Wg) S g s)(i:Clear (λb=>b=Wg) s)(hl:WgLive 238 Wg s.w):
  er (Cx.lead ag 238 Wg) E (λg s=>S g s/\WgLive 238 Wg s.w) g s:=by
 induction h with
 |stop h=>exact⟨.leaf,h,hl⟩
 |@step g s r ns ne hr h1 h2 _ m =>
  refine .step hr λf c=>?_;have l:=c.2 hl;have d:Clear (λb=>b=Wg) f:=⟨λb e=>by rw[c.1.own];exact i.own b e,λb e=>by rw[c.1.β];exact i.β b e,λb e o=>by rw[c.1.M];exact i.M b e o,λb e=>cU (i.lt b e) c.1.size⟩
  obtain⟨⟨σ,σ',hh,n,st⟩,p⟩:=h2 f c;refine⟨_,_,_,h1 f c,.inl ⟨⟨σ,σ',hh,n,st⟩,p⟩,m f c (d.step st) ?_⟩;obtain⟨x,y,q⟩:=l;exact⟨x,y,by show(ns f).w.heap[Wg]?=_;rw[st.fe Wg (d.lt Wg rfl) (d.β Wg rfl)];exact q⟩
 |ghost hg _ m=>exact .ghost hg (m (i.ghost hg) (by rw[hg.w];exact hl))
 |forget hx _ _ _=>exact hx.elim
 |xY hj _ _=>exact hj.elim
def M9.clear{Wg:Nat}{s:St}(h:M9 Wg s):Clear (λb=>b=Wg) s:=⟨λb e=>e▸h.own,λb e=>e▸h.β,λb e=>e▸h.M,λb e=>e▸h.lt⟩
section
variable (k:Int)(ps:List bG)(ns:List Int)(C Wg:Nat)
def mY(i:Nat):Fr:=[(3,.e (.one (.c (.rp [.int .i64 k])))),(4,.e (.one (.c (.rp [.sl af 2 ps.length (cP.fn ps)])))),(8,.e (.one (.c (.rp [.val (.slice (aa ⟨C,0,ae⟩) ns.length ns.length)])))),(9,.e (.one (.v (.pointer (aa ⟨Wg,0,ae⟩))))),
 (18,cI.sl ns),(19,dI ns.length),(20,dI i)]
variable {k ps ns C Wg}{X:Cx ag}{σ:List aP}
def pR4{i:Nat}(hi:i<=ns.length):AW X 45 cR4 (NQ ((21,dB (decide (i<ns.length)))::mY k ps ns C Wg i) σ) (mY k ps ns C Wg i) σ:=by
 refine AK.of_code ?_;by_cases h:i<ns.length
 .refine aX [(21,ab)] rfl ?_ ⟨rfl,cA rfl ?_,rfl⟩
  .simp;omega
  .simp[h]
 .refine aX [(21,af)] rfl ?_ ⟨rfl,cA rfl ?_,rfl⟩
  .simp;omega
  .simp[h]
abbrev d5:List aP:=[.dead,.dead,.dead,.dead,.dead]
def pR5{i:Nat}(hi:i<ns.length):AW X 45 cR5 (NQ ((10,.e (.one (.ptr 5 0)))::(11,.e (.one (.ptr 6 0)))::mY k ps ns C Wg i) [.dead,.dead,.dead,.dead,.dead,.cells 3 [.c (.int .i64 i)],.cells 3 [.c (.int .i64 (ns.getD i 0))]]) (mY k ps ns C Wg i) d5:=by
 refine AK.of_code ?_;refine bt rfl ?_ ⟨rfl,cA rfl ?_,?_⟩
 .simp;omega
 .simp
 grind
def pR8{i:Nat}(hi:i<ns.length)(c:ns.length<=4000000):AW X 45 M8 (NQ (mY k ps ns C Wg (i+1)) d5) (mY k ps ns C Wg i) d5:=by
 refine AK.of_code ?_;refine bt rfl ?_ ⟨rfl,cA rfl ?_,rfl⟩
 .simp[bA];omega
 .simp
variable {σ0:List aP}{s0:St}{S:av->St->Prop}{b:aR}{kk:List Item}{cs:List aR}
abbrev d7:List aP:=[.dead,.dead,.dead,.dead,.dead,.dead,.dead]
variable (k ps ns C Wg)in
abbrev rm(i:Nat):Fr:=(11,.e (.one (.c (.rp [.int .i64 (ns.getD i 0)]))))::(10,.e (.one (.c (.rp [.int .i64 i]))))::mY k ps ns C Wg i
noncomputable abbrev tI(kk:List Item):List Item:=.code (.region 7 yd af)::.inBlock 1::.code M8::.inLoop iD::.inBlock 0::kk
def vu{P:aq}{main:Bool}{b:aR}{a:Act}{k:List Item}{cs:List aR}{w:aA}{c x y:Code}(h:c=.seq x y):aH P main (G (b.aT a (.code c::k)) cs) w=.go (G (b.aT a (.code x::.code y::k)) cs) w:=by grind[oc]
def toAdd{i:Nat}(hi:i<ns.length)(m:b.kind≠.early){a:Act}{s:St}(h:At σ0 s0 (mY k ps ns C Wg i) d5 a s)(K:∀n l,At σ0 s0 (rm k ps ns C Wg i) d7 n l->fA X S (G (b.aT n (.inRegion Ax [0]::tI kk)) cs) l):
  fA X S (G (b.aT a (.code iD::.inLoop iD::.inBlock 0::kk)) cs) s:=by
 refine h.ctl rfl (λw=>vu Cq) λs h=>?_;refine h.code m (pR4 (Nat.le_of_lt hi)) λa s h=>?_;refine h.ctl rfl (λw=>oc) λs h=>?_;have o:a.eval (.tmp 21)=.bool ab:=by have:=h.fr.slot 21;simp only[hi,jC]at this;exact rd_bool (eT this)
 refine h.ctl rfl (λw=>vc o) λs h=>?_;refine h.ctl rfl (λw=>Fy) λs h=>?_;refine h.ctl rfl (λw=>oc) λs h=>?_;refine h.ctl rfl (λw=>rQ) λs h=>?_;refine h.ctl rfl (λw=>oc) λs h=>?_;have h:At σ0 s0 (mY k ps ns C Wg i) d5 a s:=⟨h.fr.le (cA rfl (by simp)),h.hh,h.st⟩
 refine h.code m (pR5 hi) λa s h=>?_;obtain⟨l,w1,p,d,f⟩:=cm.freeze 10 5 (E:=3) (cs:=[.c (.int .i64 i)]) (cc:=[.int .i64 i]) rfl rfl rfl h.fr h.hh;refine .ghost (.of h.hh d w1 (f.m9 h.hh)) ?_;obtain⟨s2,w2,q,g,e⟩:=cm.freeze 11 6 (E:=3) (cs:=[.c (.int .i64 (ns.getD i 0))]) (cc:=[.int .i64 (ns.getD i 0)]) rfl rfl rfl p d;refine .ghost (.of d g w2 (e.m9 d)) ?_;have h:At σ0 s0 (rm k ps ns C Wg i) d7 a s2:=⟨q.le (cA rfl (by simp)),g,h.st.trans ((f.m9 h.hh).trans (e.m9 d))⟩
 refine h.ctl rfl (λw=>oc) λs h=>?_;refine h.ctl rfl (λw=>pX) λs h=>?_;exact K a s h
def o6:au:={dst:=aa 25,op:=.call {callee:=.value (.func 166),args:=#[.tmp 9,.const (.int .i64 1)],argTypes:=#[238,3]},type:=0,pos:= "l12_snap.go:79",after:=#[],guard:=ae}
theorem Gm:Ax=#[o6]:=by kernel_rfl
def KS{i:Nat}(l:b.kind≠.early){a:Act}{s:St}(h:At σ0 s0 (rm k ps ns C Wg i) d7 a s)(K:∀c,At σ0 s0 (rm k ps ns C Wg i) d7 a c->fA X S (G (Frame.enter ag 166 #[.pointer (aa ⟨Wg,0,ae⟩),.int .i64 1] .normal) (b.aT a (.inRegion Ax [0]::tI kk)::cs)) c):
  fA X S (G (b.aT a (.inRegion Ax [0]::tI kk)) cs) s:=by
 refine .next rfl λc d=>?_;have e:=h.rely (X.iv d);have m:a.eval (.tmp 9)=.pointer (aa ⟨Wg,0,ae⟩):=Rd.dZ (e.fr.slot 9);have g:(aw a.eval o6).run ag c.w=.ok (.enter 166 #[.pointer (aa ⟨Wg,0,ae⟩),.int .i64 1]) c.w:=by have:=run_call_body (P:=ag) (a:=a) (w:=c.w) (o:=o6) (f:=166) (fn:=Tryz.f166) rfl Tryz.func166 (by kernel_rfl) (by kernel_rfl);rw[this,<-m];simp only[List.map_toArray,pU,List.map_nil];rfl
 have p:(aw a.eval o6).events ag c.w #[]=#[]:=events_call_body (P:=ag) (a:=a) (w:=c.w) (o:=o6) (f:=166) (fn:=Tryz.f166) rfl Tryz.func166 (by kernel_rfl) (by kernel_rfl) #[];have n:listed ag b.fn a o6 c.w=#[]:=by unfold listed;grind[seen_none]
 refine⟨_,c,#[],?_,.quiet e.hh,K c e⟩;have:=oY (P:=ag) (main:=X.main) (b:=b) (a:=a) (k:=tI kk) (cs:=cs) (w:=c.w) (ops:=Ax) (i:=0) (rest:=[]) (o:=o6) (by grind[Gm]) rfl l g;grind
def Vv:au:={dst:=aa 26,op:=.makeFunc (.func 167) #[] #[.tmp 9,.tmp 3,.tmp 4,.tmp 11,.tmp 8,.tmp 10],type:=1,pos:= "l12_snap.go:80",after:=#[],guard:=ae}
def Ow:au:={dst:=ae,op:=.go {callee:=.value (.tmp 26),args:=#[],argTypes:=#[]},type:=0,pos:= "l12_snap.go:80",after:=#[⟨0,.data⟩],guard:=ae}
theorem Gn:yd=[Vv,Ow].toArray:=by kernel_rfl
variable (k ps ns C Wg)in
abbrev EE(i:Nat):AM.C:=.fn (.func 167) [] [.val (.pointer (aa ⟨Wg,0,ae⟩)),.rp [.int .i64 k],.rp [.sl af 2 ps.length (cP.fn ps)],.rp [.int .i64 (ns.getD i 0)],.rp [.val (.slice (aa ⟨C,0,ae⟩) ns.length ns.length)],.rp [.int .i64 i]]
def Vw{i:Nat}:OA X 45 [Vv,Ow] Vv ((25,.any)::rm k ps ns C Wg i) d7 (.e (.one (.c (EE k ps ns C Wg i)))) d7:=by have h:we tt [] [] [Vv,Ow] ((25,.any)::rm k ps ns C Wg i) d7 Vv=aa (.e (.one (.c (EE k ps ns C Wg i))),ae,[]):=rfl;exact gB tok bE.nil h ay
def YX{i:Nat}(o:b.kind≠.early){a:Act}{s:St}(h:At σ0 s0 (rm k ps ns C Wg i) d7 a s)(K:∀v m c,At σ0 s0 (rm k ps ns C Wg i) d7 m c->Rd c.M v (EE k ps ns C Wg i)->m.tmps.getD 26 ai=v->fA X S (G (b.aT m (.inRegion yd [1]::.inBlock 1::.code M8::.inLoop iD::.inBlock 0::kk)) cs) c):
  fA X S (G (b.aT (a.put (aa 25) (.tuple #[])) (.inRegion Ax []::tI kk)) cs) s:=by
 have n:At σ0 s0 ((25,.any)::rm k ps ns C Wg i) d7 (a.put (aa 25) (.tuple #[])) s:=⟨h.fr.put (by decide) ay,h.hh,h.st⟩
 refine n.ctl rfl (λw=>iW) λs h=>?_;refine h.ctl rfl (λw=>pX) λs h=>?_;rw[Gn];refine Vw s _ h.fr h.hh b _ cs S 0 [1] o rfl λv c f l e=>?_;have f:Rd c.M v (EE k ps ns C Wg i):=eT f;have p:=((h.fr.mono e h.hh.len).put (d:=26) (v:=v) (x:=.any) (by decide) ay)
 have g:26<(a.put (aa 25) (.tuple #[])).tmps.size:=by rw[h.fr.size];decide
 refine K v _ c ⟨p.le (cA rfl ?_),l,h.st.trans e⟩ f (JV g);simp
def Sk{i:Nat}(hi:i<ns.length)(p:ns.length<=4000000)(c:b.kind≠.early)(d:σ0.length<=5){a:Act}{s:St}(h:At σ0 s0 (rm k ps ns C Wg i) d7 a s)(K:∀m l,At σ0 s0 (mY k ps ns C Wg (i+1)) d5 m l->fA X S (G (b.aT m (.code iD::.inLoop iD::.inBlock 0::kk)) cs) l):
  fA X S (G (b.aT a (.inRegion yd []::.inBlock 1::.code M8::.inLoop iD::.inBlock 0::kk)) cs) s:=by
 have f:cm 45 (d5++[.dead,.dead]) s (mY k ps ns C Wg i) a:=h.fr.le (cA rfl (by simp));have e:aF (d5++[.dead,.dead]) s:=h.hh;have g:cR σ0 s0 (d5++[.dead,.dead]) s:=h.st;have n:eu s (s.cut d5.length):=⟨rfl,λ_ _ _ h=>h,λ_ _ _=>rfl,e.mem,λb c=>c.imp id λ⟨L,o,c⟩=>⟨L,fV o,c⟩⟩
 refine .ghost n ?_;have h:At σ0 s0 (mY k ps ns C Wg i) d5 a (s.cut d5.length):=⟨⟨f.size,f.defers.imp λ_ q=>q.drop rfl,λt=>(f.slot t).drop (nA rfl)⟩,e.drop rfl,g.drop d⟩
 refine h.ctl rfl (λw=>iW) λs h=>?_;refine h.ctl rfl (λw=>qQ) λs h=>?_;refine h.code c (pR8 hi p) λa s h=>?_;exact h.ctl rfl (λw=>yo) λs h=>K a s h
end
theorem xk{b:aR}(c:b.roundOf=ae)(a:Act)(t:List Item):b.aT a t=b.at ⟨a.tmps,a.defers++b.defers⟩ t:=by cases b;simp only at c;subst c;rfl
section
variable {k:Int}{ps:List bG}{ns:List Int}{Y:Lay}{val:Nat->Nat->ah}{σ0:List aP}{s0:St}{b:aR}{kk:List Item}{cs:List aR}
def Qm{a:Act}{w:aA}{c c1 c2 c3 c4 c5:ah}(d:a.tmps.getD 26 ai=.func (.func 167) #[] #[c,c1,c2,c3,c4,c5]):(aw a.eval Ow).run ag w=.ok (.spawn (xi #[c,c1,c2,c3,c4,c5])) w/\(aw a.eval Ow).events ag w #[]=#[]:=by
 have e:a.eval (.tmp 26)=.func (.func 167) #[] #[c,c1,c2,c3,c4,c5]:=d;constructor
 .simp[aw,Ow,resolve,Deferred.ofValue,e,xi]
 .simp[aw,Ow,resolve,Deferred.ofValue,e]
def Vx(q:ee (Cx.work ag) 169 (l7 k))(t:Y.kc=2)(e:b.roundOf=ae)(B:b.kind≠.early){i:Nat}(hi:i<ns.length)(n:val i 0=.string ⟨((dK k ps (ns.getD i 0)).getD []).toArray⟩)(l:val i 1=.bool (dK k ps (ns.getD i 0)).isSome){v:ah}{a:Act}{s:St}(h:At σ0 s0 (rm k ps ns Y.C Y.Wg i) d7 a s)(A:WgLive 238 Y.Wg s.w)(y:Rd s.M v (EE k ps ns Y.C Y.Wg i))(x:a.tmps.getD 26 ai=v){Next:av->St->Prop}(K:∀d,At σ0 s0 (rm k ps ns Y.C Y.Wg i) d7 a d->WgLive 238 Y.Wg d.w->Next (G (b.aT a (.inRegion yd []::.inBlock 1::.code M8::.inLoop iD::.inBlock 0::kk)) cs) d):
  AtGo ag 238 Y (2*ns.length) val i Next (G (b.aT a (.inRegion yd [1]::.inBlock 1::.code M8::.inLoop iD::.inBlock 0::kk)) cs) s:=by
 refine⟨rfl,λd c=>?_⟩;have u:=h.rely c.1;have m:Rd d.M v (EE k ps ns Y.C Y.Wg i):=by rw[c.1.M];exact y
 cases m with
 |fn fs cc RB US f1 f2 g1 g2 r1 r2 =>
 have g:fs=[]:=jf RB;subst g;have p:cc=[f2 0,f2 1,f2 2,f2 3,f2 4,f2 5]:=by
  apply iM;intro j;have US:cc.length=6:=US
  match j with
  |0=>grind
  |1=>grind
  |2=>grind
  |3=>grind
  |4=>grind
  |5=>grind
  |j+6=>grind
 subst p;have z:f2 0=.pointer (aa ⟨Y.Wg,0,ae⟩):=Rd.dZ (r2 0 _ rfl);obtain⟨D,q2⟩:=Qm (a:=a) (w:=d.w) x;have f:Go.Conc.listed ag b.fn ⟨a.tmps,a.defers++b.defers⟩ Ow d.w=#[]:=by unfold Go.Conc.listed;have:=(Qm (a:=⟨a.tmps,a.defers++b.defers⟩) (w:=d.w) x).2;grind[seen_none]
 have r:=stepG_spawn (P:=ag) (main:=ab) (b:=b) (a:=⟨a.tmps,a.defers++b.defers⟩) (k:=.inBlock 1::.code M8::.inLoop iD::.inBlock 0::kk) (cs:=cs) (w:=d.w) (ops:=yd) (i:=1) (rest:=[]) (o:=Ow) (by grind[Gn]) rfl B D rfl;refine⟨G (b.aT a (.inRegion yd []::.inBlock 1::.code M8::.inLoop iD::.inBlock 0::kk)) cs,born ag (xi #[f2 0,f2 1,f2 2,f2 3,f2 4,f2 5]),?_,rfl,?_,K d u (c.2 A)⟩
 .rw[xk e,xk e,r,f];rfl
 .rw[z];exact worker q hi t n l (s:=d.child) ⟨u.hh.mem,rfl,by simp,by simp[St.child],by simp[St.child],by simp[St.child]⟩ rfl (r2 1 _ rfl) (r2 2 _ rfl) (r2 3 _ rfl) (r2 4 _ rfl) (r2 5 _ rfl)
def o9:au:={dst:=aa 28,op:=.call {callee:=.value (.func 170),args:=#[.tmp 9],argTypes:=#[238]},type:=0,pos:= "l12_snap.go:85",after:=#[],guard:=ae}
theorem Gp:ye=#[o9]:=by kernel_rfl
variable {X:Cx ag}{S:av->St->Prop}
def Sl(g:b.kind≠.early){C Wg:Nat}{a:Act}{s:St}(h:At σ0 s0 (mY k ps ns C Wg ns.length) d5 a s)(K:∀j c,At σ0 s0 (mY k ps ns C Wg ns.length) d5 j c->fA X S (G (Frame.enter ag 170 #[.pointer (aa ⟨Wg,0,ae⟩)] .normal) (b.aT j (.inRegion ye [0]::.code qH::kk)::cs)) c):
  fA X S (G (b.aT a (.code iD::.inLoop iD::.inBlock 0::.code nD::kk)) cs) s:=by
 refine h.ctl rfl (λw=>vu Cq) λs h=>?_;refine h.code g (pR4 (bh _)) λa s h=>?_;refine h.ctl rfl (λw=>oc) λs h=>?_;have m:a.eval (.tmp 21)=.bool af:=by have:=h.fr.slot 21;simp only[Nat.lt_irrefl,kA]at this;exact rd_bool (eT this)
 refine h.ctl rfl (λw=>vc m) λs h=>?_;refine h.ctl rfl (λw=>zw (k':=.code nD::kk) rfl) λs h=>?_;refine h.ctl rfl (λw=>vu KR) λs h=>?_;refine h.ctl rfl (λw=>pX) λs h=>?_;have h:At σ0 s0 (mY k ps ns C Wg ns.length) d5 a s:=⟨h.fr.le (cA rfl (by simp)),h.hh,h.st⟩
 refine .next rfl λc d=>?_;have e:=h.rely (X.iv d);have p:a.eval (.tmp 9)=.pointer (aa ⟨Wg,0,ae⟩):=Rd.dZ (e.fr.slot 9);have l:(aw a.eval o9).run ag c.w=.ok (.enter 170 #[.pointer (aa ⟨Wg,0,ae⟩)]) c.w:=by have:=run_call_body (P:=ag) (a:=a) (w:=c.w) (o:=o9) (f:=170) (fn:=Tryz.f170) rfl Tryz.func170 (by kernel_rfl) (by kernel_rfl);grind
 have q:(aw a.eval o9).events ag c.w #[]=#[]:=events_call_body (P:=ag) (a:=a) (w:=c.w) (o:=o9) (f:=170) (fn:=Tryz.f170) rfl Tryz.func170 (by kernel_rfl) (by kernel_rfl) #[];have n:Go.Conc.listed ag b.fn a o9 c.w=#[]:=by unfold Go.Conc.listed;grind[seen_none]
 refine⟨_,c,#[],?_,.quiet e.hh,K a c e⟩;have:=oY (P:=ag) (main:=X.main) (b:=b) (a:=a) (k:=.code qH::kk) (cs:=cs) (w:=c.w) (ops:=ye) (i:=0) (rest:=[]) (o:=o9) (by grind[Gp]) rfl g l;rw[n]at this;exact this
section
variable (k ps ns Y σ0 s0 b kk cs)
def Xp(g:av)(s:St):Prop:=∃a,Gd ag Qk Y (At σ0 s0 (mY k ps ns Y.C Y.Wg ns.length) d5 a) (b.aT a (.inRegion ye [0]::.code qH::kk)) cs g s
def TF(g:av)(s:St):Prop:=∃a,TW ag Qk Y (At σ0 s0 (mY k ps ns Y.C Y.Wg ns.length) d5 a) (G (b.aT (a.put (aa 28) (.tuple #[])) (.inRegion ye []::.code qH::kk)) cs) g s
end
def anF(f:M9 Y.Wg s0)(c:b.roundOf=ae){g:av}{s:St}(h:Xp k ps ns Y σ0 s0 b kk cs g s):
  er (Cx.lead ag 238 Y.Wg) (Es Y.Wg) (AtW1 ag 238 Y (TF k ps ns Y σ0 s0 b kk cs) (Xp k ps ns Y σ0 s0 b kk cs)) g s:=by
 obtain⟨a,h⟩:=h;have e:(ye[0]?).bind (·.dst)=aa 28:=by rw[Gp];rfl
 rw[xk c]at h;refine Vb (P:=ag) (L:=Qk) (b₀:=b) (a₀:=⟨a.tmps,a.defers++b.defers⟩) (ops₀:=ye) (i₀:=0) (rest₀:=[]) (k₀:=.code qH::kk) (cs:=cs) Cp (At.apart f) (λg s d=>⟨a,?_⟩) (λg s i=>⟨a,?_⟩) h
 .rw[xk c];rw[e]at d;exact d
 grind[xk]
def HO{P:aq}{ty:aj}{N n:Nat}{a:av->St->Prop}:∀(r:Nat){g:av}{s:St},er (Cx.lead P ty Y.Wg) (Es Y.Wg) (λg s=>Spawns P ty Y N val n a r g s) g s->Spawns P ty Y N val n a r g s
 |0,_,_,h=>er.bind h λ_ _ x=>x
 |_+1,_,_,h=>er.bind h λ_ _ x=>x
def Ox(u:ee (Cx.work ag) 169 (l7 k))(A:Y.kc=2)(l:M9 Y.Wg s0)(e:b.roundOf=ae)(m:b.kind≠.early)(n:σ0.length<=5)(I:ns.length<=4000000)(t:∀i,i<ns.length->val i 0=.string ⟨((dK k ps (ns.getD i 0)).getD []).toArray⟩)(p:∀i,i<ns.length->val i 1=.bool (dK k ps (ns.getD i 0)).isSome):
  ∀(r:Nat),r<=ns.length->∀(a:Act) (s:St),At σ0 s0 (mY k ps ns Y.C Y.Wg (ns.length-r)) d5 a s->WgLive 238 Y.Wg s.w ->
   Spawns ag 238 Y (2*ns.length) val ns.length (Xp k ps ns Y σ0 s0 b kk cs) r (G (b.aT a (.code iD::.inLoop iD::.inBlock 0::.code nD::kk)) cs) s:=by
 intro r;induction r with
 |zero =>
  intro _ a s h c;rw[lG]at h;have:=fA.live (E:=Es Y.Wg) (Sl (X:=Cx.lead ag 238 Y.Wg) (kk:=kk) (cs:=cs) (S:=λg s=>∃a,g=G (Frame.enter ag 170 #[.pointer (aa ⟨Y.Wg,0,ae⟩)] .normal) (b.aT a (.inRegion ye [0]::.code qH::kk)::cs)/\At σ0 s0 (mY k ps ns Y.C Y.Wg ns.length) d5 a s) m h λf o d=>.stop ⟨f,rfl,d⟩) (l.step h.st).clear c;refine er.bind this ?_;rintro g s ⟨⟨a,rfl,h⟩,c⟩;exact Ve (P:=ag) (L:=Qk) (Y:=Y) Cp (At.apart l) (λg s D=>⟨a,D⟩) ⟨h,c⟩
 |succ r H =>
  intro J a s h c;have hi:ns.length-(r+1)<ns.length:=by omega
  generalize z:ns.length-(r+1)=i at h hi;have:=fA.live (E:=Es Y.Wg) (toAdd (X:=Cx.lead ag 238 Y.Wg) (kk:=.code nD::kk) (cs:=cs) (S:=λg s=>∃a,g=G (Frame.enter ag 166 #[.pointer (aa ⟨Y.Wg,0,ae⟩),.int .i64 1] .normal) (b.aT a (.inRegion Ax [0]::tI (.code nD::kk))::cs)/\At σ0 s0 (rm k ps ns Y.C Y.Wg i) d7 a s) hi m h λf o d=>KS m d λs2 h2=>.stop ⟨f,rfl,h2⟩) (l.step h.st).clear c;refine er.bind this ?_;rintro g s ⟨⟨a,rfl,h⟩,c⟩;have B:(Ax[0]?).bind (·.dst)=aa 25:=by rw[Gm];rfl
  rw[xk e];refine YN (P:=ag) (L:=Qk) (Y:=Y) (F:=At σ0 s0 (rm k ps ns Y.C Y.Wg i) d7 a) Cp (At.apart l) (λs q=>?_) ⟨h,c⟩;rw[B];have:=fA.live (E:=Es Y.Wg) (YX (X:=Cx.lead ag 238 Y.Wg) (kk:=.code nD::kk) (cs:=cs) (S:=λg s=>∃v a,g=G (b.aT a (.inRegion yd [1]::.inBlock 1::.code M8::.inLoop iD::.inBlock 0::.code nD::kk)) cs/\At σ0 s0 (rm k ps ns Y.C Y.Wg i) d7 a s/\Rd s.M v (EE k ps ns Y.C Y.Wg i)/\a.tmps.getD 26 ai=v) m q.1 λv f o d x j=>.stop ⟨v,f,rfl,d,x,j⟩) (l.step q.1.st).clear q.2;rw[xk e]at this;refine er.bind this ?_;rintro g s ⟨⟨v,a,rfl,h,x,j⟩,c⟩;rw[z];refine⟨.leaf,Vx u A e m hi (t i hi) (p i hi) h c x j λo d y=>?_⟩;refine HO r ?_;have:=fA.live (E:=Es Y.Wg) (Sk (X:=Cx.lead ag 238 Y.Wg) (kk:=.code nD::kk) (cs:=cs) (S:=λg s=>∃a,g=G (b.aT a (.code iD::.inLoop iD::.inBlock 0::.code nD::kk)) cs/\At σ0 s0 (mY k ps ns Y.C Y.Wg (i+1)) d5 a s) hi I m n d λf o d=>.stop ⟨f,rfl,d⟩) (l.step d.st).clear y;refine er.bind this ?_;rintro g s ⟨⟨a,rfl,h⟩,c⟩;refine⟨.leaf,H (by omega) a s ?_ c⟩;grind
end
end
section
open Go.Sort (swp insInner insOuter ltInt)
variable {X:Cx ag}
def L5(n:Int):Ev X 187 [dI n] [] (dB af) []:=by refine Ev.bQ Tryz.func187 rfl λa=>?_;exact aX [(5,af)] rfl (by simp) (AK.bw rfl)
abbrev Wq:dr:=kq aI (λ_=>dB af) λ_=>[]
def ZE:ee X 187 Wq:=.px λn _=>L5 n
def O9(x y:Int):Ev X 161 [dI x,dI y] [] (dB (ltInt x y)) []:=by have a:bE X [(187,Wq)]:=.cons ZE .nil;refine Ev.bQ Tryz.func161 rfl λb=>?_;refine cf a rfl (by simp) (AK.bw rfl ?_);simp[ltInt]
abbrev uB:dr:=oQ aI aI (λx y=>dB (ltInt x y)) λ_ _=>[]
def xK:ee X 161 uB:=.sv λx y _=>O9 x y
def eI(d:Array Int)(j:Nat):List C:=[.int .i64 d[j]!]
abbrev kF(n:Nat):D:=.e (.one (.bp 0 (.sl n 1 0 n)))
abbrev bI(n:Nat)(d:Array Int):aP:=.buf 3 1 n (eI d)
def ig:∀j,j<1->([0]:List Nat)[j]?=aa j:=λj a=>by grind
end
section
open Go.Sort (swp insInner insOuter insertionSort ltInt)
variable {X:Cx ag}
def hU{d:Array Int}{i j n:Nat}(c:d.size=n)(hi:i<n)(e:j<n){f:Nat->List C}(b:cv n f (eI d)):cv n (pg j [.int .i64 d[i]!] (pg i [.int .i64 d[j]!] f)) (eI (swp d i j)):=by
 intro k hk;have g:(swp d i j)[k]! = if k=j then d[i]! else if k=i then d[j]! else d[k]! := by unfold swp;grind
 have a:=b k hk;simp only[eI,pg]at a⊢;grind
theorem size_swp(d:Array Int)(i j:Nat):(swp d i j).size=d.size:=by simp[swp]
theorem A1{a j:Nat}{d:Array Int}(h:a<j)(b:ltInt d[j]! d[j-1]! = ab):insInner ltInt a j d=insInner ltInt a (j-1) (swp d j (j-1)):=by
 cases j with
 |zero=>omega
 |succ j =>
  simp only[pM]at b⊢;rw[insInner,bm];grind
def sR{a j:Nat}{d:Array Int}(h:a<j->ltInt d[j]! d[j-1]! = af):insInner ltInt a j d=d:=by
 cases j with
 |zero=>rfl
 |succ j =>
  simp only[pM]at h;rw[insInner,aZ];grind
theorem Th(n:Nat)(d:Array Int)(a b:Nat)(p:d.size=n)(t:b<=n)(v:a<=n)(w:n<=4000000):
  Ev X 155 [kF n,dI a,dI b] [bI n d] (.eX []) [bI n (insertionSort ltInt d a b)]:=by
 have k:bE X [(161,uB)]:=.cons xK .nil;refine Ev.bQ Tryz.func155 rfl λu=>?_;refine bt rfl (by simp[bA];omega) ?_;refine AK.cz 1 (λs:Nat×Array Int=>s.2.size=n/\a+1<=s.1/\s.1<=n+1/\insOuter ltInt a b s.1 s.2=insertionSort ltInt d a b) (λs=>[(0,kF n),(1,dI a),(2,dI b),(6,dI s.1)]) (λs=>[bI n s.2]) (λs=>b-s.1) (a+1,d) rfl ?_ rfl ?_ rfl ⟨p,by omega,by grind,rfl⟩ ?_
 .simp[cv]
 .simp[cv]
 rintro⟨i,d1⟩ ⟨m,hi,g,e⟩;simp only at m hi g e;by_cases h:i<b
 .refine aX [(12,ab)] rfl (by simp;omega) ?_;refine AK.cz 1 (λs:Nat×Array Int=>s.2.size=n/\s.1<=i/\insInner ltInt a s.1 s.2=insInner ltInt a i d1) (λs=>[(0,kF n),(1,dI a),(2,dI b),(6,dI i),(7,dI s.1)]) (λs=>[bI n s.2]) (λs=>s.1) (i,d1) rfl ?_ rfl ?_ rfl ⟨m,by simp,rfl⟩ ?_
  .simp[cv]
  .simp[cv]
  rintro⟨j,d2⟩ ⟨f,q,c⟩;simp only at f q c;by_cases r:a<j
  .have l:((j:Int)-1).toNat=j-1:=by omega
   by_cases o:ltInt d2[j]! d2[j-1]! = ab
   .refine aW k [(18,ab),(29,ab)] rfl ?_ ?_
    .simp[bA,l,o];omega
    refine AK.aQ (j-1,swp d2 j (j-1)) rfl ?_ ?_ ?_ ?_
    .simp;omega
    .simp only[az.cat,az,l,bC,b9,aE,aG];exact hU f (by omega) (by omega) (λ_ _=>rfl)
    .refine⟨by grind[size_swp],by omega,?_⟩;grind[A1]
    .simp;omega
   .refine aW k [(18,ab),(29,af)] rfl ?_ (AK.leaveD rfl rfl ?_)
    .simp[bA,l,o];omega
    refine bt rfl ?_ (AK.aQ (i+1,d2) rfl ?_ ?_ ?_ ?_)
    .simp[bA];omega
    .simp
    .simp[cv]
    .refine⟨f,by omega,by grind,?_⟩;simp only;rw[<-e,insOuter.eq_1 ltInt a b i,bm h,<-c,sR λ_=>by grind]
    .simp;omega
  .refine aW k [(18,af)] rfl ?_ (AK.leaveD rfl rfl ?_)
   .simp[bA];omega
   refine bt rfl ?_ (AK.aQ (i+1,d2) rfl ?_ ?_ ?_ ?_)
   .simp[bA];omega
   .simp
   .simp[cv]
   .refine⟨f,by omega,by grind,?_⟩;simp only;rw[<-e,insOuter.eq_1 ltInt a b i,bm h,<-c,sR λx=>absurd x r]
   .simp;omega
 .refine aX [(12,af)] rfl (by simp;omega) (AK.leaveD rfl rfl ?_);have:insertionSort ltInt d a b=d1:=by rw[<-e,insOuter,aZ h]
  rw[this];exact cp.pr [0] rfl ay rfl rfl rfl ig
end
section
open Go.Sort (swp siftDown ltInt)
variable {X:Cx ag}
def Me{hi first root:Nat}{d:Array Int}(h:¬2*root+1<hi):siftDown ltInt hi first root d=d:=by rw[siftDown,dif_pos (by omega)]
theorem Mf{hi first root:Nat}{d:Array Int}(h:2*root+1<hi)(a:2*root+1+1<hi->ltInt d[first+(2*root+1)]! d[first+(2*root+1)+1]! = af)(b:ltInt d[first+root]! d[first+(2*root+1)]! = ab):
  siftDown ltInt hi first root d=siftDown ltInt hi first (2*root+1) (swp d (first+root) (first+(2*root+1))):=by rw[siftDown.eq_1 ltInt hi first root d,dif_neg (by omega),aZ (by grind),aZ (by grind)]
theorem GQ{hi first root:Nat}{d:Array Int}(h:2*root+1<hi)(a:2*root+1+1<hi->ltInt d[first+(2*root+1)]! d[first+(2*root+1)+1]! = af)(b:ltInt d[first+root]! d[first+(2*root+1)]! = af):
  siftDown ltInt hi first root d=d:=by rw[siftDown.eq_1 ltInt hi first root d,dif_neg (by omega),aZ (by grind),bm (by grind)]
theorem Tk{hi first root:Nat}{d:Array Int}(h:2*root+1+1<hi)(a:ltInt d[first+(2*root+1)]! d[first+(2*root+1+1)]! = ab)(b:ltInt d[first+root]! d[first+(2*root+1+1)]! = ab):
  siftDown ltInt hi first root d=siftDown ltInt hi first (2*root+1+1) (swp d (first+root) (first+(2*root+1+1))):=by rw[siftDown.eq_1 ltInt hi first root d,dif_neg (by omega),bm (by grind),aZ (by grind),dif_pos (by omega)]
theorem Pe{hi first root:Nat}{d:Array Int}(h:2*root+1+1<hi)(a:ltInt d[first+(2*root+1)]! d[first+(2*root+1+1)]! = ab)(b:ltInt d[first+root]! d[first+(2*root+1+1)]! = af):
  siftDown ltInt hi first root d=d:=by rw[siftDown.eq_1 ltInt hi first root d,dif_neg (by omega),bm (by grind),bm (by grind)]
theorem Pf(n:Nat)(d:Array Int)(lo hi first:Nat)(m:d.size=n)(p:first+hi<=n)(o:lo<=n)(r:n<=4000000):
  Ev X 182 [kF n,dI lo,dI hi,dI first] [bI n d] (.eX []) [bI n (siftDown ltInt hi first lo d)]:=by
 have g:bE X [(161,uB)]:=.cons xK .nil;refine Ev.bQ Tryz.func182 rfl λq=>?_;refine bt rfl ay ?_;refine AK.cz 1 (λs:Nat×Array Int=>s.2.size=n/\s.1<=n/\siftDown ltInt hi first s.1 s.2=siftDown ltInt hi first lo d) (λs=>[(0,kF n),(1,dI lo),(2,dI hi),(3,dI first),(8,dI s.1)]) (λs=>[bI n s.2]) (λs=>hi-s.1) (lo,d) rfl ?_ rfl ?_ rfl ⟨m,o,rfl⟩ ?_
 .simp[cv]
 .simp[cv]
 rintro⟨root,d1⟩ ⟨j,l,f⟩;simp only at j l f;by_cases h:2*root+1<hi
 .have e:((first:Int)+(2*(root:Int)+1)).toNat=first+(2*root+1):=by omega
  have c:((first:Int)+(2*(root:Int)+1)+1).toNat=first+(2*root+1+1):=by omega
  by_cases t:2*root+1+1<hi
  .by_cases i:ltInt d1[first+(2*root+1)]! d1[first+(2*root+1+1)]! = ab
   .have k:((first:Int)+(2*(root:Int)+1+1)).toNat=first+(2*root+1+1):=by omega
    have b:((first:Int)+(root:Int)).toNat=first+root:=by omega
    by_cases a:ltInt d1[first+root]! d1[first+(2*root+1+1)]! = ab
    .refine bl g [(16,af),(20,ab),(35,ab),(51,ab)] rfl ?_ (AK.aQ (2*root+1+1,swp d1 (first+root) (first+(2*root+1+1))) rfl ?_ ?_ ?_ ?_)
     .simp only[az,bC,e,c,b,k,i,a,bA,ba,bO,aG,aE];and_intros<;>omega
     .simp only[az.cat,az,aG,aE];grind
     .simp only[az.cat,az,bC,e,c,b,k,aE,aG];exact hU j (by omega) (by omega) (λ_ _=>rfl)
     .grind [size_swp,Tk]
     grind
    .rw[n6]at a;rw[show siftDown ltInt hi first lo d=d1 by grind[Pe]];refine bl g [(16,af),(20,ab),(35,ab),(51,af)] rfl ?_ (AK.fE (cp.mk [0] rfl ay rfl rfl rfl ig));simp only[az,bC,e,c,b,k,i,a,bA,ba,bO,aG,aE];and_intros<;>omega
   .rw[n6]at i;have b:((first:Int)+(root:Int)).toNat=first+root:=by omega
    by_cases a:ltInt d1[first+root]! d1[first+(2*root+1)]! = ab
    .refine bl g [(16,af),(20,ab),(35,af),(51,ab)] rfl ?_ (AK.aQ (2*root+1,swp d1 (first+root) (first+(2*root+1))) rfl ?_ ?_ ?_ ?_)
     .simp only[az,bC,e,c,b,i,a,bA,ba,bO,aG,aE];and_intros<;>omega
     .simp only[az.cat,az,aG,aE];grind
     .simp only[az.cat,az,bC,e,c,b,aE,aG];exact hU j (by omega) (by omega) (λ_ _=>rfl)
     .grind [size_swp,Mf]
     grind
    .rw[n6]at a;rw[show siftDown ltInt hi first lo d=d1 by grind[GQ]];refine bl g [(16,af),(20,ab),(35,af),(51,af)] rfl ?_ (AK.fE (cp.mk [0] rfl ay rfl rfl rfl ig));simp only[az,bC,e,c,b,i,a,bA,ba,bO,aG,aE];and_intros<;>omega
  .have i:True:=ay;have b:((first:Int)+(root:Int)).toNat=first+root:=by omega
   by_cases a:ltInt d1[first+root]! d1[first+(2*root+1)]! = ab
   .refine bl g [(16,af),(20,af),(51,ab)] rfl ?_ (AK.aQ (2*root+1,swp d1 (first+root) (first+(2*root+1))) rfl ?_ ?_ ?_ ?_)
    .simp only[az,bC,e,c,b,a,bA,ba,bO,aG,aE];and_intros<;>omega
    .simp only[az.cat,az,aG,aE];grind
    .simp only[az.cat,az,bC,e,c,b,aE,aG];exact hU j (by omega) (by omega) (λ_ _=>rfl)
    .grind [size_swp,Mf]
    grind
   .rw[n6]at a;rw[show siftDown ltInt hi first lo d=d1 by grind[GQ]];refine bl g [(16,af),(20,af),(51,af)] rfl ?_ (AK.fE (cp.mk [0] rfl ay rfl rfl rfl ig));simp only[az,bC,e,c,b,a,bA,ba,bO,aG,aE];and_intros<;>omega
 .refine aX [(16,ab)] rfl (by simp only[az,bA,ba,aG,aE];and_intros<;>omega) (AK.leaveD rfl rfl ?_);rw[<-f,Me h];exact cp.pr [0] rfl ay rfl rfl rfl ig
end
section
open Go.Sort (swp order2 median medianAdjacent choosePivot Hint ltInt)
variable {X:Cx ag}
abbrev bN(k:Nat):aP:=.cells 3 [.c (.int .i64 k)]
abbrev TU:D:=.e (.one (.ptr 1 0))
abbrev tII(a b:Nat):D:=.eX [.one (.c (.int .i64 a)),.one (.c (.int .i64 b))]
def GR:∀j,j<2->([0,1]:List Nat)[j]?=aa j:=λj a=>by grind
def tV(n:Nat)(d:Array Int)(a b sw:Nat)(j:a<n)(g:b<n)(k:n<=4000000)(f:sw<=1000):
  Ev X 219 [kF n,dI a,dI b,TU] [bI n d,bN sw] (tII (order2 ltInt d a b sw).1 (order2 ltInt d a b sw).2.1) [bI n d,bN (order2 ltInt d a b sw).2.2]:=by
 have c:bE X [(161,uB)]:=.cons xK .nil;refine Ev.bQ Tryz.func219 rfl λi=>?_;by_cases h:ltInt d[b]! d[a]! = ab
 .have e:order2 ltInt d a b sw=(b,a,sw+1):=by simp[order2,h]
  rw[e];refine bl c [(18,ab)] rfl ?_ (AK.db [0,1] rfl ?_ rfl rfl rfl GR)
  .simp only[az,bC,b9,h,bA,aG,aE];and_intros<;>omega
  .simp
 .have e:order2 ltInt d a b sw=(a,b,sw):=by simp[order2,h]
  rw[e];rw[n6]at h;refine bl c [(18,af)] rfl ?_ (AK.db [0,1] rfl ?_ rfl rfl rfl GR)
  .simp only[az,bC,b9,h,bA,aG,aE];and_intros<;>omega
  .simp
def nQ{d:Array Int}{a b sw n:Nat}(c:a<n)(e:b<n):(order2 ltInt d a b sw).1<n/\(order2 ltInt d a b sw).2.1<n/\(order2 ltInt d a b sw).2.2<=sw+1:=by unfold order2;split<;>simp only<;>omega
theorem zb(n:Nat)(d:Array Int)(a b c sw:Nat)(i:a<n)(g:b<n)(h:c<n)(e:n<=4000000)(j:sw<=900):
  Ev X 186 [kF n,dI a,dI b,dI c,TU] [bI n d,bN sw] (dI (median ltInt d a b c sw).1) [bI n d,bN (median ltInt d a b c sw).2]:=by refine Ev.bQ Tryz.func186 rfl λl=>?_;have f:=nQ (d:=d) (sw:=sw) i g;have k:=nQ (d:=d) (sw:=(order2 ltInt d a b sw).2.2) f.2.1 h;refine dc rfl ay ?_;refine AK.cQ (tV n d a b sw i g e (by omega)) [0,1] rfl ?_;refine dc rfl ay ?_;refine AK.cQ (tV n d (order2 ltInt d a b sw).2.1 c (order2 ltInt d a b sw).2.2 f.2.1 h e (by omega)) [0,1] rfl ?_;refine dc rfl ay ?_;refine AK.cQ (tV n d (order2 ltInt d a b sw).1 (order2 ltInt d (order2 ltInt d a b sw).2.1 c (order2 ltInt d a b sw).2.2).1 (order2 ltInt d (order2 ltInt d a b sw).2.1 c (order2 ltInt d a b sw).2.2).2.2 f.1 k.1 e (by omega)) [0,1] rfl ?_;refine dc rfl ay (AK.db [0,1] rfl ?_ rfl rfl rfl GR);simp[median]
def Iy{d:Array Int}{a b c sw n:Nat}(i:a<n)(f:b<n)(g:c<n):(median ltInt d a b c sw).1<n/\(median ltInt d a b c sw).2<=sw+3:=by have e:=nQ (d:=d) (sw:=sw) i f;have h:=nQ (d:=d) (sw:=(order2 ltInt d a b sw).2.2) e.2.1 g;have j:=nQ (d:=d) (sw:=(order2 ltInt d (order2 ltInt d a b sw).2.1 c (order2 ltInt d a b sw).2.2).2.2) e.1 h.1;unfold median;grind
theorem A2(n:Nat)(d:Array Int)(a sw:Nat)(g:1<=a)(e:a+1<n)(c:n<=4000000)(b:sw<=900):
  Ev X 185 [kF n,dI a,TU] [bI n d,bN sw] (dI (medianAdjacent ltInt d a sw).1) [bI n d,bN (medianAdjacent ltInt d a sw).2]:=by
 refine Ev.bQ Tryz.func185 rfl λf=>?_;obtain⟨a,rfl⟩:∃a',a=a'+1:=⟨a-1,by omega⟩
 refine dc rfl (by simp only[az,bA];and_intros<;>omega) ?_;have key:∀x y z:Int,x=(a:Int)->y=((a+1:Nat):Int)->z=((a+1+1:Nat):Int)->Ev X 186 [kF n,dI x,dI y,dI z,TU] [bI n d,bN sw] (dI (median ltInt d a (a+1) (a+1+1) sw).1) [bI n d,bN (median ltInt d a (a+1) (a+1+1) sw).2]:=by rintro x y z rfl rfl rfl;exact zb n d a (a+1) (a+1+1) sw (by omega) (by omega) (by omega) c b
 refine AK.cQ (key (((a+1:Nat):Int)-1) _ (((a+1:Nat):Int)+1) (by omega) rfl (by omega)) [0,1] rfl ?_;refine dc rfl ay (AK.db [0,1] rfl ?_ rfl rfl rfl GR);simp[medianAdjacent]
def nO:Hint->Int|.unknown=>0|.increasing=>1|.decreasing=>2
def xN(n:Nat)(d:Array Int){a b c:Nat}(sw:Nat)(k:a<n)(h:b<n)(j:c<n)(l:n<=4000000)(e:sw<=900){x y z:Int}(f:x=a)(i:y=b)(g:z=c):
  Ev X 186 [kF n,dI x,dI y,dI z,TU] [bI n d,bN sw] (dI (median ltInt d a b c sw).1) [bI n d,bN (median ltInt d a b c sw).2]:=by grind[zb]
def m6(n:Nat)(d:Array Int){a:Nat}(sw:Nat)(f:1<=a)(e:a+1<n)(g:n<=4000000)(b:sw<=900){x:Int}(c:x=a):
  Ev X 185 [kF n,dI x,TU] [bI n d,bN sw] (dI (medianAdjacent ltInt d a sw).1) [bI n d,bN (medianAdjacent ltInt d a sw).2]:=by grind[A2]
def oA{d:Array Int}{a sw n:Nat}(b:1<=a)(c:a+1<n):(medianAdjacent ltInt d a sw).1<n/\(medianAdjacent ltInt d a sw).2<=sw+3 :=
 Iy (by omega) (by omega) (by omega)
abbrev pG(k:Nat):Hint:=if k=0 then .increasing else if k=12 then .decreasing else .unknown
def Mg{d:Array Int}{a l:Nat}(c:8<=l)(b:l<50):choosePivot ltInt d a (a+l)=((median ltInt d (a+l / 4*1) (a+l / 4*2) (a+l / 4*3) 0).1,pG (median ltInt d (a+l / 4*1) (a+l / 4*2) (a+l / 4*3) 0).2):=by unfold choosePivot;grind
abbrev mA(d:Array Int)(a l:Nat):=medianAdjacent ltInt d (a+l / 4*1) 0
abbrev mB(d:Array Int)(a l:Nat):=medianAdjacent ltInt d (a+l / 4*2) (mA d a l).2
abbrev mC(d:Array Int)(a l:Nat):=medianAdjacent ltInt d (a+l / 4*3) (mB d a l).2
def Mh{d:Array Int}{a l:Nat}(b:50<=l):choosePivot ltInt d a (a+l)=((median ltInt d (mA d a l).1 (mB d a l).1 (mC d a l).1 (mC d a l).2).1,pG (median ltInt d (mA d a l).1 (mB d a l).1 (mC d a l).1 (mC d a l).2).2):=by unfold choosePivot;grind
def Iw(n:Nat)(d:Array Int)(a b:Nat)(j:a<=b)(m:b<=n)(i:8<=b-a)(g:n<=4000000):
  Ev X 158 [kF n,dI a,dI b] [bI n d] (.eX [.one (.c (.int .i64 (choosePivot ltInt d a b).1)),.one (.c (.int .i64 (nO (choosePivot ltInt d a b).2)))]) [bI n d]:=by
 refine Ev.bQ Tryz.func158 rfl λp=>?_;obtain⟨l,rfl⟩:∃l,b=a+l:=⟨b-a,by omega⟩
 rw[zm]at i;by_cases h:l<50
 .refine bJ [(32,ab),(34,af)] rfl ?_ ?_
  .simp only[az,bA,ba,bO,aG,aE];and_intros<;>omega
  refine AK.cQ (xN n d (a:=a+l / 4*1) (b:=a+l / 4*2) (c:=a+l / 4*3) 0 (by omega) (by omega) (by omega) g (by omega) (by omega) (by omega) (by omega)) [0,1] rfl ?_;rw[Mg i h];generalize median ltInt d (a+l / 4*1) (a+l / 4*2) (a+l / 4*3) 0=r;by_cases e:r.2=0
  .refine bJ [(52,ab)] rfl (by simp[e]) (AK.db [0] rfl ?_ rfl rfl rfl ig);simp[e,nO,pG]
  by_cases f:r.2=12
  .refine bJ [(52,af),(55,ab)] rfl (by simp[f]) (AK.db [0] rfl ?_ rfl rfl rfl ig);simp[f,nO,pG]
  .refine bJ [(52,af),(55,af)] rfl (by simp[e];omega) (AK.db [0] rfl ?_ rfl rfl rfl ig);simp[e,f,nO,pG]
 .refine bJ [(32,ab),(34,ab)] rfl ?_ ?_
  .simp only[az,bA,ba,bO,aG,aE];and_intros<;>omega
  have k:(mA d a l).1<n/\(mA d a l).2<=0+3:=oA (d:=d) (a:=a+l / 4*1) (sw:=0) (n:=n) (by omega) (by omega);have q:(mB d a l).1<n/\(mB d a l).2<=(mA d a l).2+3:=oA (d:=d) (a:=a+l / 4*2) (sw:=(mA d a l).2) (n:=n) (by omega) (by omega);have o:(mC d a l).1<n/\(mC d a l).2<=(mB d a l).2+3:=oA (d:=d) (a:=a+l / 4*3) (sw:=(mB d a l).2) (n:=n) (by omega) (by omega);refine AK.cQ (m6 n d (a:=a+l / 4*1) 0 (by omega) (by omega) g (by omega) (by omega)) [0,1] rfl ?_;refine dc rfl ay ?_;refine AK.cQ (m6 n d (a:=a+l / 4*2) (mA d a l).2 (by omega) (by omega) g (by omega) (by omega)) [0,1] rfl ?_;refine dc rfl ay ?_;refine AK.cQ (m6 n d (a:=a+l / 4*3) (mB d a l).2 (by omega) (by omega) g (by omega) (by omega)) [0,1] rfl ?_;refine dc rfl ay ?_;refine AK.cQ (xN n d (a:=(mA d a l).1) (b:=(mB d a l).1) (c:=(mC d a l).1) (mC d a l).2 (by omega) (by omega) (by omega) g (by omega) rfl rfl rfl) [0,1] rfl ?_;rw[Mh (by omega)];generalize median ltInt d (mA d a l).1 (mB d a l).1 (mC d a l).1 (mC d a l).2=r;by_cases e:r.2=0
  .refine bJ [(52,ab)] rfl (by simp[e]) (AK.db [0] rfl ?_ rfl rfl rfl ig);simp[e,nO,pG]
  by_cases f:r.2=12
  .refine bJ [(52,af),(55,ab)] rfl (by simp[f]) (AK.db [0] rfl ?_ rfl rfl rfl ig);simp[f,nO,pG]
  .refine bJ [(52,af),(55,af)] rfl (by simp[e];omega) (AK.db [0] rfl ?_ rfl rfl rfl ig);simp[e,f,nO,pG]
end
section
open Go.Sort (swp reverseLoop reverseRange siftDown heapBuild heapPop heapSort ltInt)
variable {X:Cx ag}
def Tj(n:Nat)(d:Array Int)(a b:Nat)(g:d.size=n)(q:1<=b)(o:a<=n)(l:b<=n)(p:n<=4000000):Ev X 159 [kF n,dI a,dI b] [bI n d] (.eX []) [bI n (reverseRange d a b)]:=by
 refine Ev.bQ Tryz.func159 rfl λm=>?_;refine bt rfl (by simp[bA];omega) ?_;refine AK.cz 1 (λs:Nat×Nat×Array Int=>s.2.2.size=n/\s.1<=n/\s.2.1<n+1/\s.2.1<n/\reverseLoop s.1 s.2.1 s.2.2=reverseRange d a b) (λs=>[(0,kF n),(6,dI s.1),(7,dI s.2.1)]) (λs=>[bI n s.2.2]) (λs=>s.2.1-s.1) (a,b-1,d) rfl ?_ rfl ?_ rfl ⟨g,by grind,by grind,by grind,rfl⟩ ?_
 .simp;omega
 .simp[cv]
 rintro⟨i,j,d1⟩ ⟨f,hi,_,k,c⟩;simp only at f hi k c;by_cases h:i<j
 .refine bJ [(13,ab)] rfl ?_ (AK.aQ (i+1,j-1,swp d1 i j) rfl ?_ ?_ ?_ ?_)
  .simp only[az,bC,b9,bA,ba,aG,aE];and_intros<;>omega
  .simp only[az.cat,az,aG,aE];and_intros<;>omega
  .simp only[az.cat,az,bC,b9,aE,aG];exact hU f (by omega) (by omega) (λ_ _=>rfl)
  .refine⟨by grind[size_swp],by grind,by grind,by grind,?_⟩;rw[<-c,reverseLoop.eq_1 i j d1,bm h]
  grind
 .have e:reverseRange d a b=d1:=by rw[<-c,reverseLoop,aZ h]
  rw[e];refine aX [(13,af)] rfl (by simp;omega) (AK.leaveD rfl rfl ?_);exact cp.pr [0] rfl ay rfl rfl rfl ig
def C8(n:Nat)(d:Array Int){lo hi first:Nat}(c:d.size=n)(e:first+hi<=n)(g:lo<=n)(h:n<=4000000){x y z:Int}(a:x=lo)(f:y=hi)(b:z=first):
  Ev X 182 [kF n,dI x,dI y,dI z] [bI n d] (.eX []) [bI n (siftDown ltInt hi first lo d)]:=by grind[Pf]
def zc(hi first:Nat):∀(m root:Nat)(d:Array Int),hi-root<=m->(siftDown ltInt hi first root d).size=d.size:=by
 intro m;induction m with
 |zero=>intro root d h;rw[siftDown,dif_pos (by omega)]
 |succ m a =>
  intro root d h;rw[siftDown];grind[size_swp]
theorem Pc(n:Nat)(d:Array Int)(a b:Nat)(m:d.size=n)(o:a<=b)(r:1<=b-a)(p:b<=n)(j:n<=4000000):Ev X 156 [kF n,dI a,dI b] [bI n d] (.eX []) [bI n (heapSort ltInt d a b)]:=by
 refine Ev.bQ Tryz.func156 rfl λt=>?_;obtain⟨l,rfl⟩:∃l,b=a+l:=⟨b-a,by omega⟩
 rw[zm]at r;refine dc rfl (by simp only[az,bA,aG,aE];and_intros<;>omega) ?_;refine AK.kU (S2:=Array Int) 0 rfl rfl (λd2=>d2.size=n/\d2=heapBuild ltInt l a ((l-1) / 2+1) d) (λ_=>[(0,kF n),(6,dI a),(7,dI 0),(8,dI l)]) (λd2=>[bI n d2]) 1 (λs:Nat×Array Int=>s.2.size=n/\s.1<=(l-1) / 2+1/\heapBuild ltInt l a s.1 s.2=heapBuild ltInt l a ((l-1) / 2+1) d) (λs=>[(0,kF n),(6,dI a),(7,dI 0),(8,dI l),(9,dI ((s.1:Int)-1))]) (λs=>[bI n s.2]) (λs=>s.1) ((l-1) / 2+1,d) rfl ?_ rfl ?_ rfl ⟨m,bh _,rfl⟩ ?_ ?_
 .simp;omega
 .simp[cv]
 .rintro out ⟨k,d1⟩ ⟨e,hk,c⟩;simp only at e hk c;cases k with
  |zero =>
   refine aX [(19,af)] rfl (by simp) (AK.leaveD rfl rfl ?_);exact out d1 ⟨e,c⟩ rfl (by simp) rfl (by simp[cv])
  |succ k =>
   refine aX [(19,ab)] rfl (by simp only[az,ba];omega) ?_;refine AK.cQ (C8 n d1 (lo:=k) (hi:=l) (first:=a) e p (by omega) j (by omega) rfl rfl) [0] rfl ?_;refine dc rfl ?_ (AK.aQ (k,siftDown ltInt l a k d1) rfl ?_ ?_ ?_ ?_)
   .simp only[az,bA];omega
   .simp only[az.cat,az,aG,aE];omega
   .simp[cv]
   .exact⟨by rw[zc _ _ _ _ _ (bh _)];exact e,by grind,c⟩
   .simp
 rintro g ⟨h,q⟩;refine dc rfl (by simp only[az,bA];omega) ?_;have f:heapSort ltInt d a (a+l)=heapPop ltInt a l g:=by unfold heapSort;grind
 rw[f];refine AK.cz 1 (λs:Nat×Array Int=>s.2.size=n/\s.1<=l/\heapPop ltInt a s.1 s.2=heapPop ltInt a l g) (λs=>[(0,kF n),(6,dI a),(7,dI 0),(8,dI l),(10,dI ((s.1:Int)-1))]) (λs=>[bI n s.2]) (λs=>s.1) (l,g) rfl ?_ rfl ?_ rfl ⟨h,bh _,rfl⟩ ?_
 .simp
 .simp[cv]
 rintro⟨k,d1⟩ ⟨e,hk,c⟩;simp only at e hk c;cases k with
 |zero =>
  rw[<-c];refine aX [(30,af)] rfl (by simp) (AK.leaveD rfl rfl ?_);exact cp.pr [0] rfl ay rfl rfl rfl ig
 |succ k =>
  have i:((a:Int)+(((k+1:Nat):Int)-1)).toNat=a+k:=by omega
  refine bJ [(30,ab),(1000011,ab)] rfl ?_ ?_
  .simp only[az,bC,b9,i,bA,ba,aG,aE];and_intros<;>omega
  refine AK.norm [bI n (swp d1 a (a+k))] rfl ?_ ?_
  .simp only[az.cat,az,bC,b9,i,aE,aG];exact hU e (by omega) (by omega) (λ_ _=>rfl)
  refine dc rfl ay ?_;refine AK.cQ (C8 n (swp d1 a (a+k)) (lo:=0) (hi:=k) (first:=a) (by grind[size_swp]) (by omega) (by omega) j rfl (by omega) rfl) [0] rfl ?_;refine dc rfl ?_ (AK.aQ (k,siftDown ltInt k a 0 (swp d1 a (a+k))) rfl ?_ ?_ ?_ ?_)
  .simp only[az,bA];omega
  .simp only[az.cat,az,aG,aE];omega
  .simp[cv]
  .exact⟨by rw[zc _ _ _ _ _ (bh _),size_swp];exact e,by grind,c⟩
  .simp
end
section
open Go.Sort (bitsLen)
variable {X:Cx ag}
def yh:List UInt8:=(bg 256).map λi=>UInt8.ofNat (bitsLen i)
def kz{x k:Nat}(h:x<2 ^ k):bitsLen x<=k:=by
 unfold bitsLen;split
 .omega
 .rename_i a;have:=(Nat.log2_lt a).2 h;omega
theorem Pg{x:Nat}(h:x<256):(iR yh x).toNat=bitsLen x:=by unfold iR yh;rw[b9,ar,mU,List.getElem?_range h];have:=kz (x:=x) (k:=8) h;grind[UInt8.toNat_ofNat']
def uC{n k:Nat}(h:2 ^ k<=n):bitsLen n=k+bitsLen (n / 2 ^ k):=by
 have a:0<2 ^ k:=Nat.two_pow_pos k;have e:0<n / 2 ^ k:=Nat.div_pos h a;unfold bitsLen;rw[aZ (by omega),aZ (by omega)];have d:Nat.log2 n=k+Nat.log2 (n / 2 ^ k):=by
  rw[Nat.log2_eq_iff (by omega)];have b:=Nat.log2_self_le (n:=n / 2 ^ k) (by omega);have c:=Nat.lt_log2_self (n:=n / 2 ^ k);constructor
  .rw[Nat.pow_add,Nat.mul_comm];exact iP (eC _ b) (Nat.div_mul_le_self n _)
  .rw[show k+Nat.log2 (n / 2 ^ k)+1=k+(Nat.log2 (n / 2 ^ k)+1) by omega,Nat.pow_add];grind[Nat.div_lt_iff_lt_mul]
 omega
set_option maxRecDepth 100000 in
def Mi(n:Nat)(i:n<=4000000):Ev X 165 [dQ n] [] (dI (bitsLen n)) []:=by
 refine Ev.bQ Tryz.func165 rfl λh=>?_;have fin:∀{T:List UInt8} {x:Nat},T=yh->x<256->(iR T (x:Int)).toNat=bitsLen x:=λhT hx=>by grind[Pg]
 have c:∀{T:List UInt8},T=yh->T.length=256:=λhT=>by rw[hT];rfl
 by_cases g:65536<=n
 .have b:((n:Int).toNat / 2 ^ Int.toNat 16)=n / 65536:=by simp
  have e:bitsLen n=16+bitsLen (n / 65536):=uC (n:=n) (k:=16) g;have d:=kz (x:=n / 65536) (k:=8) (by grind);refine bJ [(4,af),(8,ab),(14,af)] rfl ?_ (AK.bw rfl ?_)
  .generalize hT:(ByteArray.data _).toList=T;have a:T=yh:=by rw[<-hT];decide +kernel
   simp only[az,b,fin a (show n / 65536<256 by omega),c a,bA,ba,bO];and_intros<;>omega
  .generalize hT:(ByteArray.data _).toList=T;have a:T=yh:=by rw[<-hT];decide +kernel
   simp only[az,az.cat,b,fin a (show n / 65536<256 by omega),aG,aE];omega
 by_cases f:256<=n
 .have b:((n:Int).toNat / 2 ^ Int.toNat 8)=n / 256:=by simp
  have e:bitsLen n=8+bitsLen (n / 256):=uC (n:=n) (k:=8) f;have d:=kz (x:=n / 256) (k:=8) (by grind);refine bJ [(4,af),(8,af),(14,ab)] rfl ?_ (AK.bw rfl ?_)
  .generalize hT:(ByteArray.data _).toList=T;have a:T=yh:=by rw[<-hT];decide +kernel
   simp only[az,b,fin a (show n / 256<256 by omega),c a,bA,ba,bO];and_intros<;>omega
  .generalize hT:(ByteArray.data _).toList=T;have a:T=yh:=by rw[<-hT];decide +kernel
   simp only[az,az.cat,b,fin a (show n / 256<256 by omega),aG,aE];omega
 .have d:=kz (x:=n) (k:=8) (by grind);refine bJ [(4,af),(8,af),(14,af)] rfl ?_ (AK.bw rfl ?_)
  .generalize hT:(ByteArray.data _).toList=T;have a:T=yh:=by rw[<-hT];decide +kernel
   simp only[az,fin a (show n<256 by omega),c a,bA,ba,bO];and_intros<;>omega
  .generalize hT:(ByteArray.data _).toList=T;have a:T=yh:=by rw[<-hT];decide +kernel
   simp only[az,az.cat,fin a (show n<256 by omega),aG,aE];omega
def Md(n:Nat)(a:n<=4000000):Ev X 139 [dQ n] [] (dI (bitsLen n)) []:=by refine Ev.bQ Tryz.func139 rfl λb=>?_;refine dc rfl ay ?_;refine AK.Gh ?_;refine dc rfl ay ?_;refine AK.cQ (Mi n a) [] rfl ?_;exact dc rfl ay (AK.bw rfl)
end
section
open Go.Sort (swp bitsLen xorNextN xorNextN_lt xorNext xorNext_toNat breakStep breakPatterns)
variable {X:Cx ag}
abbrev bQ(r:Nat):aP:=.cells 254 [.c (.int .u64 r)]
def Ph(r:Nat):Ev X 184 [.e (.one (.ptr 0 0))] [bQ r] (dQ (xorNextN r)) [bQ (xorNextN r)]:=by
 refine Ev.bQ Tryz.func184 rfl λd=>?_;have a:(2:Nat) ^ Int.toNat 13=8192:=by decide
 have c:(2:Nat) ^ Int.toNat 7=128:=by decide
 have b:(2:Nat) ^ Int.toNat 17=131072:=by decide
 refine dc rfl ?_ ?_
 .simp only[az];omega
 refine AK.norm [bQ (xorNextN r)] rfl ?_ (AK.db [0] rfl ?_ rfl rfl rfl ig)
 .simp only[az,az.cat,xorNextN,b9,a,c,b,aE]
 .simp only[az,az.cat,xorNextN,b9,a,c,b]
theorem Pj(n:Nat)(a:n<=4000000):Ev X 183 [dI n] [] (dQ ((1 <<< bitsLen n:Nat):Int)) []:=by
 refine Ev.bQ Tryz.func183 rfl λb=>?_;have l:=kz (x:=n) (k:=22) (by grind);refine dc rfl (by simp only[az,bA];and_intros<;>omega) ?_;refine AK.cQ (Md n a) [] rfl ?_;refine dc rfl ?_ (AK.bw rfl ?_)
 .simp only[az];omega
 .have c:2 ^ bitsLen n<=2 ^ 22:=Nat.pow_le_pow_right (by omega) l;simp only[az,az.cat,Nat.shiftLeft_eq,b9];grind
def C9{L:Nat}(h:0<L):1 <<< bitsLen L<=2*L:=by rw[Nat.shiftLeft_eq,Nat.one_mul];unfold bitsLen;rw[aZ (by omega),Nat.pow_succ];grind[Nat.log2_self_le]
def Mj(L:Nat):1<=1 <<< bitsLen L:=by rw[Nat.shiftLeft_eq,Nat.one_mul];grind
def TV(a L M:Nat):Nat->Nat->UInt64×Array Int->UInt64×Array Int
 |0,_,st=>st
 |k+1,idx,st=>TV a L M k (idx+1) (breakStep a L M st idx)
def tX{d:Array Int}{a L:Nat}(h:8<=L):breakPatterns d a (a+L)=(TV a L (1 <<< bitsLen L) 3 (a+L / 4*2-1) (UInt64.ofNat L,d)).2:=by unfold breakPatterns;simp only[zm];rw[bm h];rfl
def A3{a L M idx:Nat}{r:UInt64}{d:Array Int}:breakStep a L M (r,d) idx=(xorNext r,swp d idx (a+if(xorNextN r.toNat &&& (M-1))≥L then(xorNextN r.toNat &&& (M-1))-L else(xorNextN r.toNat &&& (M-1)))):=by unfold breakStep;simp only[xorNext_toNat]
abbrev ZF(n a L M:Nat)(k:Nat):Fr:=[(0,kF n),(1,dI a),(6,dI L),(7,.e (.one (.ptr 1 0))),(8,dQ M),(9,dI ((a+L / 4*2-1+(3-k):Nat):Int))]
def Mb(n:Nat)(d:Array Int)(a b:Nat)(t:d.size=n)(u:a<=b)(A:b<=n)(B:n<=4000000):
  Ev X 157 [kF n,dI a,dI b] [bI n d] (.eX []) [bI n (breakPatterns d a b)]:=by
 refine Ev.bQ Tryz.func157 rfl λz=>?_;obtain⟨L,rfl⟩:∃L,b=a+L:=⟨b-a,by omega⟩
 by_cases p:8<=L
 .rw[tX p];have y:=C9 (L:=L) (by omega);have v:=Mj L;have m:(UInt64.ofNat L).toNat=L:=by grind[UInt64.toNat_ofNat']
  refine bJ [(15,ab)] rfl ?_ ?_
  .simp only[az,bA,ba,aG,aE];and_intros<;>omega
  have key:∀x:Int,x=(L:Int)->Ev X 183 [dI x] [] (dQ ((1 <<< bitsLen L:Nat):Int)) []:=by grind[Pj]
  refine AK.cQ (key _ (by omega)) [] rfl ?_;refine dc rfl ?_ ?_
  .simp only[az,bA,ba,aG,aE];and_intros<;>omega
  generalize q:1 <<< bitsLen L=M at *;refine AK.cz 2 (λs:Nat×UInt64×Array Int=>s.2.2.size=n/\s.1<=3/\(TV a L M s.1 (a+L / 4*2-1+(3-s.1)) s.2).2=(TV a L M 3 (a+L / 4*2-1) (UInt64.ofNat L,d)).2) (λs=>ZF n a L M s.1) (λs=>[bI n s.2.2,bQ s.2.1.toNat]) (λs=>s.1) (3,UInt64.ofNat L,d) rfl ?_ rfl ?_ rfl ⟨t,bh _,rfl⟩ ?_
  .simp only[az.cat,az,aG,aE];and_intros<;>omega
  .simp only[az.cat,az,cv,m,aG,aE];grind
  rintro⟨k,r,d1⟩ ⟨l,hk,c⟩;simp only at l hk c;cases k with
  |zero =>
   rw[<-c];refine bJ [(33,af)] rfl ?_ (AK.leaveD rfl rfl ?_)
   .simp only[az,bA,bO,aG,aE];and_intros<;>omega
   exact cp.pr [0] rfl ay rfl rfl rfl ig
  |succ k =>
   have w:xorNextN r.toNat<18446744073709551616:=xorNextN_lt _ (UInt64.toNat_lt r);have o:xorNextN r.toNat &&& (M-1)<=M-1:=Nat.and_le_right;have j:((M:Int)-1).toNat=M-1:=by omega
   refine bJ [(33,ab)] rfl ?_ ?_
   .simp only[az,bA,ba,aG,aE];and_intros<;>omega
   refine AK.cQ (Ph r.toNat) [1] rfl ?_;have f:=A3 (a:=a) (L:=L) (M:=M) (idx:=a+L / 4*2-1+(3-(k+1))) (r:=r) (d:=d1);generalize i:xorNextN r.toNat &&& (M-1)=O at *;by_cases g:L<=O
   .rw[bm g]at f;have h:((a:Int)+((O:Int)-(L:Int))).toNat=a+(O-L):=by omega
    refine bJ [(43,ab)] rfl ?_ (AK.aQ (k,xorNext r,swp d1 (a+L / 4*2-1+(3-(k+1))) (a+(O-L))) rfl ?_ ?_ ?_ ?_)
    .simp only[az,bC,b9,j,i,h,bA,ba,aG,aE];and_intros<;>omega
    .simp only[az.cat,az,aG,aE];omega
    .simp only[az.cat,az,bC,b9,j,i,h,xorNext_toNat,aE,aG];exact hU l (by omega) (by omega) (λ_ _=>rfl)
    .refine⟨by grind[size_swp],by grind,?_⟩;rw[<-c,TV,f,show a+L / 4*2-1+(3-(k+1))+1=a+L / 4*2-1+(3-k) by omega]
    .simp
   .rw[aZ g]at f;have h:((a:Int)+(O:Int)).toNat=a+O:=by omega
    refine bJ [(43,af)] rfl ?_ (AK.aQ (k,xorNext r,swp d1 (a+L / 4*2-1+(3-(k+1))) (a+O)) rfl ?_ ?_ ?_ ?_)
    .simp only[az,bC,b9,j,i,h,bA,bO,aG,aE];and_intros<;>omega
    .simp only[az.cat,az,aG,aE];omega
    .simp only[az.cat,az,bC,b9,j,i,h,xorNext_toNat,aE,aG];exact hU l (by omega) (by omega) (λ_ _=>rfl)
    .refine⟨by grind[size_swp],by grind,?_⟩;rw[<-c,TV,f,show a+L / 4*2-1+(3-(k+1))+1=a+L / 4*2-1+(3-k) by omega]
    .simp
 .have e:breakPatterns d a (a+L)=d:=by unfold breakPatterns;grind
  rw[e];refine bJ [(15,af)] rfl ?_ ?_
  .simp only[az,bA,bO,aG,aE];and_intros<;>omega
  exact cp.pr [0] rfl ay rfl rfl rfl ig
end
end Go.AM.R1
