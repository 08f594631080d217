/-
  Part 3 of a machine of values without memory, proved sound over the model, and of contracts of the functions that the laws reach. Nothing is taken for granted: no condition.
-/
import Derived.Test.YtplldmnmndnomaaGreatDoorA2
import Derived.Test.YtplldmnmndnomaaGreatDoorProg
import Derived.MapKept
import Derived.Conc.Beside
import Derived.Conc.LeavingOf
import Derived.Below
import Derived.ChangeArms
import Derived.DataReads
import Derived.Deep.Slices
import Derived.ChangeShapes
import Derived.WideShapes
import Derived.Maps.RangeRun
import Derived.Laws.MakeOwn
import Derived.Lib.SliceRun
import Derived.Sort.AssemblyPlain
set_option linter.unusedVariables false
set_option linter.unusedSimpArgs false
set_option linter.defProp false
set_option linter.deprecated false
namespace Go.AM
open Go.Proofs
theorem av{P:Program}{t:TypeId}{i:TypeInfo}(h:P.types[t]?=some i):P.info? t=some i:=by
 unfold Tables.info?;rw[aq (dF.1 h).1];exact h
theorem bX.nil{P:Program}:bX P []:=λ_ _ h=>by cases h
theorem bX.cons{P:Program}{t:TypeId}{i:TI}{T:List (Nat×TI)}(h:aC P t i)(r:bX P T):bX P ((t,i)::T):=by
 intro b c h2;simp only[aJ] at h2;cases a:Nat.beq t b with
 |true=>rw[a] at h2;cases h2;rw[<-bk a];exact h
 |false=>rw[a] at h2;exact r b c h2
namespace R1
def i3:TI:=⟨1,8,false,TypeDesc.int IntKind.i64,[.int .i64 0],[]⟩
theorem g3:aC Tryz.prog 3 i3:=⟨Tryz.underlying3,rfl,⟨Tryz.t3,_,av Tryz.type3,rfl,rfl,rfl,rfl,⟨#[],rfl⟩,rfl⟩,λh=>absurd rfl h⟩
def i4:TI:=⟨1,1,false,TypeDesc.bool,[.bool false],[]⟩
theorem g4:aC Tryz.prog 4 i4:=⟨Tryz.underlying4,rfl,⟨Tryz.t4,_,av Tryz.type4,rfl,rfl,rfl,rfl,⟨#[],rfl⟩,rfl⟩,λh=>absurd rfl h⟩
def i5:TI:=⟨1,1,false,TypeDesc.int IntKind.u8,[.int .u8 0],[]⟩
theorem g5:aC Tryz.prog 5 i5:=⟨Tryz.underlying5,rfl,⟨Tryz.t5,_,av Tryz.type5,rfl,rfl,rfl,rfl,⟨#[],rfl⟩,rfl⟩,λh=>absurd rfl h⟩
def i9:TI:=⟨1,16,false,TypeDesc.string,[.str []],[]⟩
theorem g9:aC Tryz.prog 9 i9:=⟨Tryz.underlying9,rfl,⟨Tryz.t9,_,av Tryz.type9,rfl,rfl,rfl,rfl,⟨#[],rfl⟩,rfl⟩,λh=>absurd rfl h⟩
def i16:TI:=⟨1,8,false,TypeDesc.pointer 298,[.kg],[]⟩
theorem UX:aC Tryz.prog 16 i16:=⟨Tryz.underlying16,rfl,⟨Tryz.t16,_,av Tryz.type16,rfl,rfl,rfl,rfl,⟨#[],rfl⟩,rfl⟩,λh=>absurd rfl h⟩
def i20:TI:=⟨1,16,false,TypeDesc.interface #[],[.kW],[]⟩
theorem UY:aC Tryz.prog 20 i20:=⟨Tryz.underlying20,rfl,⟨Tryz.t20,_,av Tryz.type20,rfl,rfl,rfl,rfl,⟨#[],rfl⟩,rfl⟩,λh=>absurd rfl h⟩
def i21:TI:=⟨1,4,false,TypeDesc.int IntKind.i32,[.int .i32 0],[]⟩
theorem UZ:aC Tryz.prog 21 i21:=⟨Tryz.underlying21,rfl,⟨Tryz.t21,_,av Tryz.type21,rfl,rfl,rfl,rfl,⟨#[],rfl⟩,rfl⟩,λh=>absurd rfl h⟩
def i22:TI:=⟨1,24,false,TypeDesc.slice 116,[.sl true 0 0 (λ_=>[])],[]⟩
theorem U0:aC Tryz.prog 22 i22:=⟨Tryz.underlying22,rfl,⟨Tryz.t22,_,av Tryz.type22,rfl,rfl,rfl,rfl,⟨#[],rfl⟩,rfl⟩,λh=>absurd rfl h⟩
def i23:TI:=⟨1,24,false,TypeDesc.slice 120,[.sl true 0 0 (λ_=>[])],[]⟩
theorem U1:aC Tryz.prog 23 i23:=⟨Tryz.underlying23,rfl,⟨Tryz.t23,_,av Tryz.type23,rfl,rfl,rfl,rfl,⟨#[],rfl⟩,rfl⟩,λh=>absurd rfl h⟩
def i24:TI:=⟨1,24,false,TypeDesc.slice 133,[.sl true 0 0 (λ_=>[])],[]⟩
theorem U2:aC Tryz.prog 24 i24:=⟨Tryz.underlying24,rfl,⟨Tryz.t24,_,av Tryz.type24,rfl,rfl,rfl,rfl,⟨#[],rfl⟩,rfl⟩,λh=>absurd rfl h⟩
def i26:TI:=⟨3,72,true,TypeDesc.struct #[{ name:= "Packs",type:=22,offset:=0,embedded:=false,tag:= "",pkgPath:= "",byteOffset:=0 },{ name:= "Snaps",type:=23,offset:=1,embedded:=false,tag:= "",pkgPath:= "",byteOffset:=24 },{ name:= "Log",type:=24,offset:=2,embedded:=false,tag:= "",pkgPath:= "",byteOffset:=48 }],[.sl true 0 0 (λ_=>[]),.sl true 0 0 (λ_=>[]),.sl true 0 0 (λ_=>[])],[]⟩
theorem U3:aC Tryz.prog 26 i26:=⟨Tryz.underlying26,rfl,⟨Tryz.t26,_,av Tryz.type26,rfl,rfl,rfl,rfl,⟨_,rfl⟩,rfl⟩,λh=>absurd rfl h⟩
def i27:TI:=⟨1,24,false,TypeDesc.slice 3,[.sl true 0 0 (λ_=>[])],[]⟩
theorem U4:aC Tryz.prog 27 i27:=⟨Tryz.underlying27,rfl,⟨Tryz.t27,_,av Tryz.type27,rfl,rfl,rfl,rfl,⟨#[],rfl⟩,rfl⟩,λh=>absurd rfl h⟩
def i29:TI:=⟨5,120,true,TypeDesc.struct #[{ name:= "Store",type:=26,offset:=0,embedded:=false,tag:= "",pkgPath:= "",byteOffset:=0 },{ name:= "Marks",type:=27,offset:=3,embedded:=false,tag:= "",pkgPath:= "",byteOffset:=72 },{ name:= "Left",type:=27,offset:=4,embedded:=false,tag:= "",pkgPath:= "",byteOffset:=96 }],[.sl true 0 0 (λ_=>[]),.sl true 0 0 (λ_=>[]),.sl true 0 0 (λ_=>[]),.sl true 0 0 (λ_=>[]),.sl true 0 0 (λ_=>[])],[]⟩
theorem U5:aC Tryz.prog 29 i29:=⟨Tryz.underlying29,rfl,⟨Tryz.t29,_,av Tryz.type29,rfl,rfl,rfl,rfl,⟨_,rfl⟩,rfl⟩,λh=>absurd rfl h⟩
def i31:TI:=⟨4,40,true,TypeDesc.struct #[{ name:= "Kind",type:=3,offset:=0,embedded:=false,tag:= "",pkgPath:= "",byteOffset:=0 },{ name:= "N",type:=3,offset:=1,embedded:=false,tag:= "",pkgPath:= "",byteOffset:=8 },{ name:= "M",type:=3,offset:=2,embedded:=false,tag:= "",pkgPath:= "",byteOffset:=16 },{ name:= "Body",type:=9,offset:=3,embedded:=false,tag:= "",pkgPath:= "",byteOffset:=24 }],[.int .i64 0,.int .i64 0,.int .i64 0,.str []],[TypeDesc.int IntKind.i64,TypeDesc.int IntKind.i64,TypeDesc.int IntKind.i64,TypeDesc.string]⟩
theorem U6:aC Tryz.prog 31 i31:=⟨Tryz.underlying31,rfl,⟨Tryz.t31,_,av Tryz.type31,rfl,rfl,rfl,rfl,⟨_,rfl⟩,rfl⟩,λ_=>eF (fs:=[{ name:= "Kind",type:=3,offset:=0,embedded:=false,tag:= "",pkgPath:= "",byteOffset:=0 },{ name:= "N",type:=3,offset:=1,embedded:=false,tag:= "",pkgPath:= "",byteOffset:=8 },{ name:= "M",type:=3,offset:=2,embedded:=false,tag:= "",pkgPath:= "",byteOffset:=16 },{ name:= "Body",type:=9,offset:=3,embedded:=false,tag:= "",pkgPath:= "",byteOffset:=24 }]) Tryz.underlying31 (by decide +kernel) Tryz.eqGuardType31 ⟨by decide,rfl,Tryz.underlying3,ab,by decide,rfl,Tryz.underlying3,ab,by decide,rfl,Tryz.underlying3,ab,by decide,rfl,Tryz.underlying9,ab,ab⟩⟩
def i32:TI:=⟨1,24,false,TypeDesc.slice 77,[.sl true 0 0 (λ_=>[])],[]⟩
theorem U7:aC Tryz.prog 32 i32:=⟨Tryz.underlying32,rfl,⟨Tryz.t32,_,av Tryz.type32,rfl,rfl,rfl,rfl,⟨#[],rfl⟩,rfl⟩,λh=>absurd rfl h⟩
def i34:TI:=⟨12,216,true,TypeDesc.struct #[{ name:= "Key",type:=3,offset:=0,embedded:=false,tag:= "",pkgPath:= "",byteOffset:=0 },{ name:= "Sweep",type:=29,offset:=1,embedded:=false,tag:= "",pkgPath:= "",byteOffset:=8 },{ name:= "Lie",type:=31,offset:=6,embedded:=false,tag:= "",pkgPath:= "",byteOffset:=128 },{ name:= "Keeps",type:=32,offset:=10,embedded:=false,tag:= "",pkgPath:= "",byteOffset:=168 },{ name:= "Found",type:=27,offset:=11,embedded:=false,tag:= "",pkgPath:= "",byteOffset:=192 }],[.int .i64 0,.sl true 0 0 (λ_=>[]),.sl true 0 0 (λ_=>[]),.sl true 0 0 (λ_=>[]),.sl true 0 0 (λ_=>[]),.sl true 0 0 (λ_=>[]),.int .i64 0,.int .i64 0,.int .i64 0,.str [],.sl true 0 0 (λ_=>[]),.sl true 0 0 (λ_=>[])],[]⟩
theorem U8:aC Tryz.prog 34 i34:=⟨Tryz.underlying34,rfl,⟨Tryz.t34,_,av Tryz.type34,rfl,rfl,rfl,rfl,⟨_,rfl⟩,rfl⟩,λh=>absurd rfl h⟩
def i37:TI:=⟨1,24,false,TypeDesc.slice 73,[.sl true 0 0 (λ_=>[])],[]⟩
theorem U9:aC Tryz.prog 37 i37:=⟨Tryz.underlying37,rfl,⟨Tryz.t37,_,av Tryz.type37,rfl,rfl,rfl,rfl,⟨#[],rfl⟩,rfl⟩,λh=>absurd rfl h⟩
def i38:TI:=⟨1,24,false,TypeDesc.slice 83,[.sl true 0 0 (λ_=>[])],[]⟩
theorem Va:aC Tryz.prog 38 i38:=⟨Tryz.underlying38,rfl,⟨Tryz.t38,_,av Tryz.type38,rfl,rfl,rfl,rfl,⟨#[],rfl⟩,rfl⟩,λh=>absurd rfl h⟩
def i39:TI:=⟨1,24,false,TypeDesc.slice 129,[.sl true 0 0 (λ_=>[])],[]⟩
theorem Vb:aC Tryz.prog 39 i39:=⟨Tryz.underlying39,rfl,⟨Tryz.t39,_,av Tryz.type39,rfl,rfl,rfl,rfl,⟨#[],rfl⟩,rfl⟩,λh=>absurd rfl h⟩
def i41:TI:=⟨3,72,true,TypeDesc.struct #[{ name:= "Packs",type:=37,offset:=0,embedded:=false,tag:= "",pkgPath:= "",byteOffset:=0 },{ name:= "Snaps",type:=38,offset:=1,embedded:=false,tag:= "",pkgPath:= "",byteOffset:=24 },{ name:= "Log",type:=39,offset:=2,embedded:=false,tag:= "",pkgPath:= "",byteOffset:=48 }],[.sl true 0 0 (λ_=>[]),.sl true 0 0 (λ_=>[]),.sl true 0 0 (λ_=>[])],[]⟩
theorem Vd:aC Tryz.prog 41 i41:=⟨Tryz.underlying41,rfl,⟨Tryz.t41,_,av Tryz.type41,rfl,rfl,rfl,rfl,⟨_,rfl⟩,rfl⟩,λh=>absurd rfl h⟩
def i43:TI:=⟨5,120,true,TypeDesc.struct #[{ name:= "Store",type:=41,offset:=0,embedded:=false,tag:= "",pkgPath:= "",byteOffset:=0 },{ name:= "Marks",type:=27,offset:=3,embedded:=false,tag:= "",pkgPath:= "",byteOffset:=72 },{ name:= "Left",type:=27,offset:=4,embedded:=false,tag:= "",pkgPath:= "",byteOffset:=96 }],[.sl true 0 0 (λ_=>[]),.sl true 0 0 (λ_=>[]),.sl true 0 0 (λ_=>[]),.sl true 0 0 (λ_=>[]),.sl true 0 0 (λ_=>[])],[]⟩
theorem Ve:aC Tryz.prog 43 i43:=⟨Tryz.underlying43,rfl,⟨Tryz.t43,_,av Tryz.type43,rfl,rfl,rfl,rfl,⟨_,rfl⟩,rfl⟩,λh=>absurd rfl h⟩
def i44:TI:=⟨4,40,true,TypeDesc.struct #[{ name:= "Kind",type:=3,offset:=0,embedded:=false,tag:= "",pkgPath:= "",byteOffset:=0 },{ name:= "N",type:=3,offset:=1,embedded:=false,tag:= "",pkgPath:= "",byteOffset:=8 },{ name:= "M",type:=3,offset:=2,embedded:=false,tag:= "",pkgPath:= "",byteOffset:=16 },{ name:= "Body",type:=9,offset:=3,embedded:=false,tag:= "",pkgPath:= "",byteOffset:=24 }],[.int .i64 0,.int .i64 0,.int .i64 0,.str []],[TypeDesc.int IntKind.i64,TypeDesc.int IntKind.i64,TypeDesc.int IntKind.i64,TypeDesc.string]⟩
theorem Vf:aC Tryz.prog 44 i44:=⟨Tryz.underlying44,rfl,⟨Tryz.t44,_,av Tryz.type44,rfl,rfl,rfl,rfl,⟨_,rfl⟩,rfl⟩,λ_=>eF (fs:=[{ name:= "Kind",type:=3,offset:=0,embedded:=false,tag:= "",pkgPath:= "",byteOffset:=0 },{ name:= "N",type:=3,offset:=1,embedded:=false,tag:= "",pkgPath:= "",byteOffset:=8 },{ name:= "M",type:=3,offset:=2,embedded:=false,tag:= "",pkgPath:= "",byteOffset:=16 },{ name:= "Body",type:=9,offset:=3,embedded:=false,tag:= "",pkgPath:= "",byteOffset:=24 }]) Tryz.underlying44 (by decide +kernel) Tryz.eqGuardType44 ⟨by decide,rfl,Tryz.underlying3,ab,by decide,rfl,Tryz.underlying3,ab,by decide,rfl,Tryz.underlying3,ab,by decide,rfl,Tryz.underlying9,ab,ab⟩⟩
def i45:TI:=⟨1,24,false,TypeDesc.slice 57,[.sl true 0 0 (λ_=>[])],[]⟩
theorem Vg:aC Tryz.prog 45 i45:=⟨Tryz.underlying45,rfl,⟨Tryz.t45,_,av Tryz.type45,rfl,rfl,rfl,rfl,⟨#[],rfl⟩,rfl⟩,λh=>absurd rfl h⟩
def i47:TI:=⟨12,216,true,TypeDesc.struct #[{ name:= "Key",type:=3,offset:=0,embedded:=false,tag:= "",pkgPath:= "",byteOffset:=0 },{ name:= "Sweep",type:=43,offset:=1,embedded:=false,tag:= "",pkgPath:= "",byteOffset:=8 },{ name:= "Lie",type:=44,offset:=6,embedded:=false,tag:= "",pkgPath:= "",byteOffset:=128 },{ name:= "Keeps",type:=45,offset:=10,embedded:=false,tag:= "",pkgPath:= "",byteOffset:=168 },{ name:= "Found",type:=27,offset:=11,embedded:=false,tag:= "",pkgPath:= "",byteOffset:=192 }],[.int .i64 0,.sl true 0 0 (λ_=>[]),.sl true 0 0 (λ_=>[]),.sl true 0 0 (λ_=>[]),.sl true 0 0 (λ_=>[]),.sl true 0 0 (λ_=>[]),.int .i64 0,.int .i64 0,.int .i64 0,.str [],.sl true 0 0 (λ_=>[]),.sl true 0 0 (λ_=>[])],[]⟩
theorem Vh:aC Tryz.prog 47 i47:=⟨Tryz.underlying47,rfl,⟨Tryz.t47,_,av Tryz.type47,rfl,rfl,rfl,rfl,⟨_,rfl⟩,rfl⟩,λh=>absurd rfl h⟩
def i57:TI:=⟨2,16,true,TypeDesc.struct #[{ name:= "Long",type:=3,offset:=0,embedded:=false,tag:= "",pkgPath:= "",byteOffset:=0 },{ name:= "Sum",type:=3,offset:=1,embedded:=false,tag:= "",pkgPath:= "",byteOffset:=8 }],[.int .i64 0,.int .i64 0],[TypeDesc.int IntKind.i64,TypeDesc.int IntKind.i64]⟩
theorem Vi:aC Tryz.prog 57 i57:=⟨Tryz.underlying57,rfl,⟨Tryz.t57,_,av Tryz.type57,rfl,rfl,rfl,rfl,⟨_,rfl⟩,rfl⟩,λ_=>eF (fs:=[{ name:= "Long",type:=3,offset:=0,embedded:=false,tag:= "",pkgPath:= "",byteOffset:=0 },{ name:= "Sum",type:=3,offset:=1,embedded:=false,tag:= "",pkgPath:= "",byteOffset:=8 }]) Tryz.underlying57 (by decide +kernel) Tryz.eqGuardType57 ⟨by decide,rfl,Tryz.underlying3,ab,by decide,rfl,Tryz.underlying3,ab,ab⟩⟩
def i71:TI:=⟨1,24,false,TypeDesc.slice 98,[.sl true 0 0 (λ_=>[])],[]⟩
theorem Vj:aC Tryz.prog 71 i71:=⟨Tryz.underlying71,rfl,⟨Tryz.t71,_,av Tryz.type71,rfl,rfl,rfl,rfl,⟨#[],rfl⟩,rfl⟩,λh=>absurd rfl h⟩
def i73:TI:=⟨2,32,true,TypeDesc.struct #[{ name:= "No",type:=3,offset:=0,embedded:=false,tag:= "",pkgPath:= "",byteOffset:=0 },{ name:= "Item",type:=71,offset:=1,embedded:=false,tag:= "",pkgPath:= "",byteOffset:=8 }],[.int .i64 0,.sl true 0 0 (λ_=>[])],[]⟩
theorem Vk:aC Tryz.prog 73 i73:=⟨Tryz.underlying73,rfl,⟨Tryz.t73,_,av Tryz.type73,rfl,rfl,rfl,rfl,⟨_,rfl⟩,rfl⟩,λh=>absurd rfl h⟩
def i77:TI:=⟨2,16,true,TypeDesc.struct #[{ name:= "Long",type:=3,offset:=0,embedded:=false,tag:= "",pkgPath:= "",byteOffset:=0 },{ name:= "Sum",type:=3,offset:=1,embedded:=false,tag:= "",pkgPath:= "",byteOffset:=8 }],[.int .i64 0,.int .i64 0],[TypeDesc.int IntKind.i64,TypeDesc.int IntKind.i64]⟩
theorem Vl:aC Tryz.prog 77 i77:=⟨Tryz.underlying77,rfl,⟨Tryz.t77,_,av Tryz.type77,rfl,rfl,rfl,rfl,⟨_,rfl⟩,rfl⟩,λ_=>eF (fs:=[{ name:= "Long",type:=3,offset:=0,embedded:=false,tag:= "",pkgPath:= "",byteOffset:=0 },{ name:= "Sum",type:=3,offset:=1,embedded:=false,tag:= "",pkgPath:= "",byteOffset:=8 }]) Tryz.underlying77 (by decide +kernel) Tryz.eqGuardType77 ⟨by decide,rfl,Tryz.underlying3,ab,by decide,rfl,Tryz.underlying3,ab,ab⟩⟩
def i81:TI:=⟨1,24,false,TypeDesc.slice 122,[.sl true 0 0 (λ_=>[])],[]⟩
theorem Vm:aC Tryz.prog 81 i81:=⟨Tryz.underlying81,rfl,⟨Tryz.t81,_,av Tryz.type81,rfl,rfl,rfl,rfl,⟨#[],rfl⟩,rfl⟩,λh=>absurd rfl h⟩
def i83:TI:=⟨2,32,true,TypeDesc.struct #[{ name:= "No",type:=3,offset:=0,embedded:=false,tag:= "",pkgPath:= "",byteOffset:=0 },{ name:= "All",type:=81,offset:=1,embedded:=false,tag:= "",pkgPath:= "",byteOffset:=8 }],[.int .i64 0,.sl true 0 0 (λ_=>[])],[]⟩
theorem Vn:aC Tryz.prog 83 i83:=⟨Tryz.underlying83,rfl,⟨Tryz.t83,_,av Tryz.type83,rfl,rfl,rfl,rfl,⟨_,rfl⟩,rfl⟩,λh=>absurd rfl h⟩
def i98:TI:=⟨2,24,true,TypeDesc.struct #[{ name:= "Name",type:=3,offset:=0,embedded:=false,tag:= "",pkgPath:= "",byteOffset:=0 },{ name:= "Body",type:=9,offset:=1,embedded:=false,tag:= "",pkgPath:= "",byteOffset:=8 }],[.int .i64 0,.str []],[TypeDesc.int IntKind.i64,TypeDesc.string]⟩
theorem Vo:aC Tryz.prog 98 i98:=⟨Tryz.underlying98,rfl,⟨Tryz.t98,_,av Tryz.type98,rfl,rfl,rfl,rfl,⟨_,rfl⟩,rfl⟩,λ_=>eF (fs:=[{ name:= "Name",type:=3,offset:=0,embedded:=false,tag:= "",pkgPath:= "",byteOffset:=0 },{ name:= "Body",type:=9,offset:=1,embedded:=false,tag:= "",pkgPath:= "",byteOffset:=8 }]) Tryz.underlying98 (by decide +kernel) Tryz.eqGuardType98 ⟨by decide,rfl,Tryz.underlying3,ab,by decide,rfl,Tryz.underlying9,ab,ab⟩⟩
def i104:TI:=⟨1,24,false,TypeDesc.slice 73,[.sl true 0 0 (λ_=>[])],[]⟩
theorem QH:aC Tryz.prog 104 i104:=⟨Tryz.underlying104,rfl,⟨Tryz.t104,_,av Tryz.type104,rfl,rfl,rfl,rfl,⟨#[],rfl⟩,rfl⟩,λh=>absurd rfl h⟩
def i106:TI:=⟨3,72,true,TypeDesc.struct #[{ name:= "packed",type:=104,offset:=0,embedded:=true,tag:= "",pkgPath:= "loop.example/depositary/impl",byteOffset:=0 },{ name:= "snaps",type:=38,offset:=1,embedded:=false,tag:= "",pkgPath:= "loop.example/depositary/impl",byteOffset:=24 },{ name:= "log",type:=39,offset:=2,embedded:=false,tag:= "",pkgPath:= "loop.example/depositary/impl",byteOffset:=48 }],[.sl true 0 0 (λ_=>[]),.sl true 0 0 (λ_=>[]),.sl true 0 0 (λ_=>[])],[]⟩
theorem QI:aC Tryz.prog 106 i106:=⟨Tryz.underlying106,rfl,⟨Tryz.t106,_,av Tryz.type106,rfl,rfl,rfl,rfl,⟨_,rfl⟩,rfl⟩,λh=>absurd rfl h⟩
def i114:TI:=⟨1,24,false,TypeDesc.slice 163,[.sl true 0 0 (λ_=>[])],[]⟩
theorem QJ:aC Tryz.prog 114 i114:=⟨Tryz.underlying114,rfl,⟨Tryz.t114,_,av Tryz.type114,rfl,rfl,rfl,rfl,⟨#[],rfl⟩,rfl⟩,λh=>absurd rfl h⟩
def i116:TI:=⟨2,32,true,TypeDesc.struct #[{ name:= "No",type:=3,offset:=0,embedded:=false,tag:= "",pkgPath:= "",byteOffset:=0 },{ name:= "Item",type:=114,offset:=1,embedded:=false,tag:= "",pkgPath:= "",byteOffset:=8 }],[.int .i64 0,.sl true 0 0 (λ_=>[])],[]⟩
theorem QK:aC Tryz.prog 116 i116:=⟨Tryz.underlying116,rfl,⟨Tryz.t116,_,av Tryz.type116,rfl,rfl,rfl,rfl,⟨_,rfl⟩,rfl⟩,λh=>absurd rfl h⟩
def i118:TI:=⟨1,24,false,TypeDesc.slice 165,[.sl true 0 0 (λ_=>[])],[]⟩
theorem QL:aC Tryz.prog 118 i118:=⟨Tryz.underlying118,rfl,⟨Tryz.t118,_,av Tryz.type118,rfl,rfl,rfl,rfl,⟨#[],rfl⟩,rfl⟩,λh=>absurd rfl h⟩
def i120:TI:=⟨2,32,true,TypeDesc.struct #[{ name:= "No",type:=3,offset:=0,embedded:=false,tag:= "",pkgPath:= "",byteOffset:=0 },{ name:= "All",type:=118,offset:=1,embedded:=false,tag:= "",pkgPath:= "",byteOffset:=8 }],[.int .i64 0,.sl true 0 0 (λ_=>[])],[]⟩
theorem QM:aC Tryz.prog 120 i120:=⟨Tryz.underlying120,rfl,⟨Tryz.t120,_,av Tryz.type120,rfl,rfl,rfl,rfl,⟨_,rfl⟩,rfl⟩,λh=>absurd rfl h⟩
def i122:TI:=⟨2,40,true,TypeDesc.struct #[{ name:= "Path",type:=9,offset:=0,embedded:=false,tag:= "",pkgPath:= "",byteOffset:=0 },{ name:= "Names",type:=27,offset:=1,embedded:=false,tag:= "",pkgPath:= "",byteOffset:=16 }],[.str [],.sl true 0 0 (λ_=>[])],[]⟩
theorem QN:aC Tryz.prog 122 i122:=⟨Tryz.underlying122,rfl,⟨Tryz.t122,_,av Tryz.type122,rfl,rfl,rfl,rfl,⟨_,rfl⟩,rfl⟩,λh=>absurd rfl h⟩
def i124:TI:=⟨1,24,false,TypeDesc.slice 148,[.sl true 0 0 (λ_=>[])],[]⟩
theorem QO:aC Tryz.prog 124 i124:=⟨Tryz.underlying124,rfl,⟨Tryz.t124,_,av Tryz.type124,rfl,rfl,rfl,rfl,⟨#[],rfl⟩,rfl⟩,λh=>absurd rfl h⟩
def i129:TI:=⟨2,16,true,TypeDesc.struct #[{ name:= "By",type:=3,offset:=0,embedded:=false,tag:= "",pkgPath:= "",byteOffset:=0 },{ name:= "Snap",type:=3,offset:=1,embedded:=false,tag:= "",pkgPath:= "",byteOffset:=8 }],[.int .i64 0,.int .i64 0],[TypeDesc.int IntKind.i64,TypeDesc.int IntKind.i64]⟩
theorem QP:aC Tryz.prog 129 i129:=⟨Tryz.underlying129,rfl,⟨Tryz.t129,_,av Tryz.type129,rfl,rfl,rfl,rfl,⟨_,rfl⟩,rfl⟩,λ_=>eF (fs:=[{ name:= "By",type:=3,offset:=0,embedded:=false,tag:= "",pkgPath:= "",byteOffset:=0 },{ name:= "Snap",type:=3,offset:=1,embedded:=false,tag:= "",pkgPath:= "",byteOffset:=8 }]) Tryz.underlying129 (by decide +kernel) Tryz.eqGuardType129 ⟨by decide,rfl,Tryz.underlying3,ab,by decide,rfl,Tryz.underlying3,ab,ab⟩⟩
def i133:TI:=⟨2,16,true,TypeDesc.struct #[{ name:= "By",type:=3,offset:=0,embedded:=false,tag:= "",pkgPath:= "",byteOffset:=0 },{ name:= "Snap",type:=3,offset:=1,embedded:=false,tag:= "",pkgPath:= "",byteOffset:=8 }],[.int .i64 0,.int .i64 0],[TypeDesc.int IntKind.i64,TypeDesc.int IntKind.i64]⟩
theorem QQ:aC Tryz.prog 133 i133:=⟨Tryz.underlying133,rfl,⟨Tryz.t133,_,av Tryz.type133,rfl,rfl,rfl,rfl,⟨_,rfl⟩,rfl⟩,λ_=>eF (fs:=[{ name:= "By",type:=3,offset:=0,embedded:=false,tag:= "",pkgPath:= "",byteOffset:=0 },{ name:= "Snap",type:=3,offset:=1,embedded:=false,tag:= "",pkgPath:= "",byteOffset:=8 }]) Tryz.underlying133 (by decide +kernel) Tryz.eqGuardType133 ⟨by decide,rfl,Tryz.underlying3,ab,by decide,rfl,Tryz.underlying3,ab,ab⟩⟩
def i144:TI:=⟨1,24,false,TypeDesc.slice 9,[.sl true 0 0 (λ_=>[])],[]⟩
theorem QR:aC Tryz.prog 144 i144:=⟨Tryz.underlying144,rfl,⟨Tryz.t144,_,av Tryz.type144,rfl,rfl,rfl,rfl,⟨#[],rfl⟩,rfl⟩,λh=>absurd rfl h⟩
def i148:TI:=⟨2,32,true,TypeDesc.struct #[{ name:= "Path",type:=9,offset:=0,embedded:=false,tag:= "",pkgPath:= "",byteOffset:=0 },{ name:= "Text",type:=9,offset:=1,embedded:=false,tag:= "",pkgPath:= "",byteOffset:=16 }],[.str [],.str []],[TypeDesc.string,TypeDesc.string]⟩
theorem QS:aC Tryz.prog 148 i148:=⟨Tryz.underlying148,rfl,⟨Tryz.t148,_,av Tryz.type148,rfl,rfl,rfl,rfl,⟨_,rfl⟩,rfl⟩,λ_=>eF (fs:=[{ name:= "Path",type:=9,offset:=0,embedded:=false,tag:= "",pkgPath:= "",byteOffset:=0 },{ name:= "Text",type:=9,offset:=1,embedded:=false,tag:= "",pkgPath:= "",byteOffset:=16 }]) Tryz.underlying148 (by decide +kernel) Tryz.eqGuardType148 ⟨by decide,rfl,Tryz.underlying9,ab,by decide,rfl,Tryz.underlying9,ab,ab⟩⟩
def i156:TI:=⟨1,8,false,TypeDesc.int IntKind.u64,[.int .u64 0],[]⟩
theorem QT:aC Tryz.prog 156 i156:=⟨Tryz.underlying156,rfl,⟨Tryz.t156,_,av Tryz.type156,rfl,rfl,rfl,rfl,⟨#[],rfl⟩,rfl⟩,λh=>absurd rfl h⟩
def i163:TI:=⟨2,24,true,TypeDesc.struct #[{ name:= "Name",type:=3,offset:=0,embedded:=false,tag:= "",pkgPath:= "",byteOffset:=0 },{ name:= "Body",type:=9,offset:=1,embedded:=false,tag:= "",pkgPath:= "",byteOffset:=8 }],[.int .i64 0,.str []],[TypeDesc.int IntKind.i64,TypeDesc.string]⟩
theorem QU:aC Tryz.prog 163 i163:=⟨Tryz.underlying163,rfl,⟨Tryz.t163,_,av Tryz.type163,rfl,rfl,rfl,rfl,⟨_,rfl⟩,rfl⟩,λ_=>eF (fs:=[{ name:= "Name",type:=3,offset:=0,embedded:=false,tag:= "",pkgPath:= "",byteOffset:=0 },{ name:= "Body",type:=9,offset:=1,embedded:=false,tag:= "",pkgPath:= "",byteOffset:=8 }]) Tryz.underlying163 (by decide +kernel) Tryz.eqGuardType163 ⟨by decide,rfl,Tryz.underlying3,ab,by decide,rfl,Tryz.underlying9,ab,ab⟩⟩
def i165:TI:=⟨2,40,true,TypeDesc.struct #[{ name:= "Path",type:=9,offset:=0,embedded:=false,tag:= "",pkgPath:= "",byteOffset:=0 },{ name:= "Names",type:=27,offset:=1,embedded:=false,tag:= "",pkgPath:= "",byteOffset:=16 }],[.str [],.sl true 0 0 (λ_=>[])],[]⟩
theorem QV:aC Tryz.prog 165 i165:=⟨Tryz.underlying165,rfl,⟨Tryz.t165,_,av Tryz.type165,rfl,rfl,rfl,rfl,⟨_,rfl⟩,rfl⟩,λh=>absurd rfl h⟩
def i177:TI:=⟨1,8,false,TypeDesc.int IntKind.i64,[.int .i64 0],[]⟩
theorem QW:aC Tryz.prog 177 i177:=⟨Tryz.underlying177,rfl,⟨Tryz.t177,_,av Tryz.type177,rfl,rfl,rfl,rfl,⟨#[],rfl⟩,rfl⟩,λh=>absurd rfl h⟩
def i186:TI:=⟨1,4,false,TypeDesc.int IntKind.u32,[.int .u32 0],[]⟩
theorem QX:aC Tryz.prog 186 i186:=⟨Tryz.underlying186,rfl,⟨Tryz.t186,_,av Tryz.type186,rfl,rfl,rfl,rfl,⟨#[],rfl⟩,rfl⟩,λh=>absurd rfl h⟩
def i188:TI:=⟨1,8,false,TypeDesc.int IntKind.u64,[.int .u64 0],[]⟩
theorem QY:aC Tryz.prog 188 i188:=⟨Tryz.underlying188,rfl,⟨Tryz.t188,_,av Tryz.type188,rfl,rfl,rfl,rfl,⟨#[],rfl⟩,rfl⟩,λh=>absurd rfl h⟩
def i189:TI:=⟨1,24,false,TypeDesc.slice 200,[.sl true 0 0 (λ_=>[])],[]⟩
theorem QZ:aC Tryz.prog 189 i189:=⟨Tryz.underlying189,rfl,⟨Tryz.t189,_,av Tryz.type189,rfl,rfl,rfl,rfl,⟨#[],rfl⟩,rfl⟩,λh=>absurd rfl h⟩
def i191:TI:=⟨0,0,true,TypeDesc.struct #[],[],[]⟩
theorem Q0:aC Tryz.prog 191 i191:=⟨Tryz.underlying191,rfl,⟨Tryz.t191,_,av Tryz.type191,rfl,rfl,rfl,rfl,⟨_,rfl⟩,rfl⟩,λh=>absurd rfl h⟩
def i192:TI:=⟨0,0,true,TypeDesc.struct #[],[],[]⟩
theorem Q1:aC Tryz.prog 192 i192:=⟨Tryz.underlying192,rfl,⟨Tryz.t192,_,av Tryz.type192,rfl,rfl,rfl,rfl,⟨_,rfl⟩,rfl⟩,λh=>absurd rfl h⟩
def i193:TI:=⟨0,0,true,TypeDesc.struct #[],[],[]⟩
theorem Q2:aC Tryz.prog 193 i193:=⟨Tryz.underlying193,rfl,⟨Tryz.t193,_,av Tryz.type193,rfl,rfl,rfl,rfl,⟨_,rfl⟩,rfl⟩,λh=>absurd rfl h⟩
def i195:TI:=⟨1,8,true,TypeDesc.struct #[{ name:= "_",type:=192,offset:=0,embedded:=false,tag:= "",pkgPath:= "sync/atomic",byteOffset:=0 },{ name:= "_",type:=193,offset:=0,embedded:=false,tag:= "",pkgPath:= "sync/atomic",byteOffset:=0 },{ name:= "v",type:=188,offset:=0,embedded:=false,tag:= "",pkgPath:= "sync/atomic",byteOffset:=0 }],[.int .u64 0],[]⟩
theorem Q3:aC Tryz.prog 195 i195:=⟨Tryz.underlying195,rfl,⟨Tryz.t195,_,av Tryz.type195,rfl,rfl,rfl,rfl,⟨_,rfl⟩,rfl⟩,λh=>absurd rfl h⟩
def i197:TI:=⟨2,16,true,TypeDesc.struct #[{ name:= "noCopy",type:=191,offset:=0,embedded:=false,tag:= "",pkgPath:= "sync",byteOffset:=0 },{ name:= "state",type:=195,offset:=0,embedded:=false,tag:= "",pkgPath:= "sync",byteOffset:=0 },{ name:= "sema",type:=186,offset:=1,embedded:=false,tag:= "",pkgPath:= "sync",byteOffset:=8 }],[.int .u64 0,.int .u32 0],[]⟩
theorem Q4:aC Tryz.prog 197 i197:=⟨Tryz.underlying197,rfl,⟨Tryz.t197,_,av Tryz.type197,rfl,rfl,rfl,rfl,⟨_,rfl⟩,rfl⟩,λh=>absurd rfl h⟩
def i200:TI:=⟨2,24,true,TypeDesc.struct #[{ name:= "piece",type:=9,offset:=0,embedded:=false,tag:= "",pkgPath:= "loop.example/depositary/impl",byteOffset:=0 },{ name:= "ok",type:=4,offset:=1,embedded:=false,tag:= "",pkgPath:= "loop.example/depositary/impl",byteOffset:=16 }],[.str [],.bool false],[TypeDesc.string,TypeDesc.bool]⟩
theorem Q5:aC Tryz.prog 200 i200:=⟨Tryz.underlying200,rfl,⟨Tryz.t200,_,av Tryz.type200,rfl,rfl,rfl,rfl,⟨_,rfl⟩,rfl⟩,λ_=>eF (fs:=[{ name:= "piece",type:=9,offset:=0,embedded:=false,tag:= "",pkgPath:= "loop.example/depositary/impl",byteOffset:=0 },{ name:= "ok",type:=4,offset:=1,embedded:=false,tag:= "",pkgPath:= "loop.example/depositary/impl",byteOffset:=16 }]) Tryz.underlying200 (by decide +kernel) Tryz.eqGuardType200 ⟨by decide,rfl,Tryz.underlying9,ab,by decide,rfl,Tryz.underlying4,ab,ab⟩⟩
def i210:TI:=⟨1,8,false,TypeDesc.int IntKind.i64,[.int .i64 0],[]⟩
theorem Q6:aC Tryz.prog 210 i210:=⟨Tryz.underlying210,rfl,⟨Tryz.t210,_,av Tryz.type210,rfl,rfl,rfl,rfl,⟨#[],rfl⟩,rfl⟩,λh=>absurd rfl h⟩
def i212:TI:=⟨1,16,false,TypeDesc.interface #[("Error",242)],[.kW],[]⟩
theorem Q7:aC Tryz.prog 212 i212:=⟨Tryz.underlying212,rfl,⟨Tryz.t212,_,av Tryz.type212,rfl,rfl,rfl,rfl,⟨#[],rfl⟩,rfl⟩,λh=>absurd rfl h⟩
def i215:TI:=⟨1,8,false,TypeDesc.int IntKind.u64,[.int .u64 0],[]⟩
theorem Q8:aC Tryz.prog 215 i215:=⟨Tryz.underlying215,rfl,⟨Tryz.t215,_,av Tryz.type215,rfl,rfl,rfl,rfl,⟨#[],rfl⟩,rfl⟩,λh=>absurd rfl h⟩
def i219:TI:=⟨1,8,false,TypeDesc.pointer 3,[.kg],[]⟩
theorem Q9:aC Tryz.prog 219 i219:=⟨Tryz.underlying219,rfl,⟨Tryz.t219,_,av Tryz.type219,rfl,rfl,rfl,rfl,⟨#[],rfl⟩,rfl⟩,λh=>absurd rfl h⟩
def i236:TI:=⟨1,8,false,TypeDesc.pointer 239,[.kg],[]⟩
theorem Ra:aC Tryz.prog 236 i236:=⟨Tryz.underlying236,rfl,⟨Tryz.t236,_,av Tryz.type236,rfl,rfl,rfl,rfl,⟨#[],rfl⟩,rfl⟩,λh=>absurd rfl h⟩
def i237:TI:=⟨1,24,false,TypeDesc.slice 5,[.sl true 0 0 (λ_=>[])],[]⟩
theorem Rb:aC Tryz.prog 237 i237:=⟨Tryz.underlying237,rfl,⟨Tryz.t237,_,av Tryz.type237,rfl,rfl,rfl,rfl,⟨#[],rfl⟩,rfl⟩,λh=>absurd rfl h⟩
def i239:TI:=⟨2,32,true,TypeDesc.struct #[{ name:= "addr",type:=236,offset:=0,embedded:=false,tag:= "",pkgPath:= "strings",byteOffset:=0 },{ name:= "buf",type:=237,offset:=1,embedded:=false,tag:= "",pkgPath:= "strings",byteOffset:=8 }],[.kg,.sl true 0 0 (λ_=>[])],[]⟩
theorem Rc:aC Tryz.prog 239 i239:=⟨Tryz.underlying239,rfl,⟨Tryz.t239,_,av Tryz.type239,rfl,rfl,rfl,rfl,⟨_,rfl⟩,rfl⟩,λh=>absurd rfl h⟩
def i257:TI:=⟨1,8,false,TypeDesc.pointer 253,[.kg],[]⟩
theorem Re:aC Tryz.prog 257 i257:=⟨Tryz.underlying257,rfl,⟨Tryz.t257,_,av Tryz.type257,rfl,rfl,rfl,rfl,⟨#[],rfl⟩,rfl⟩,λh=>absurd rfl h⟩
def i291:TI:=⟨2,2,true,TypeDesc.struct #[{ name:= "lo",type:=5,offset:=0,embedded:=false,tag:= "",pkgPath:= "unicode/utf8",byteOffset:=0 },{ name:= "hi",type:=5,offset:=1,embedded:=false,tag:= "",pkgPath:= "unicode/utf8",byteOffset:=1 }],[.int .u8 0,.int .u8 0],[TypeDesc.int IntKind.u8,TypeDesc.int IntKind.u8]⟩
theorem Rf:aC Tryz.prog 291 i291:=⟨Tryz.underlying291,rfl,⟨Tryz.t291,_,av Tryz.type291,rfl,rfl,rfl,rfl,⟨_,rfl⟩,rfl⟩,λ_=>eF (fs:=[{ name:= "lo",type:=5,offset:=0,embedded:=false,tag:= "",pkgPath:= "unicode/utf8",byteOffset:=0 },{ name:= "hi",type:=5,offset:=1,embedded:=false,tag:= "",pkgPath:= "unicode/utf8",byteOffset:=1 }]) Tryz.underlying291 (by decide +kernel) Tryz.eqGuardType291 ⟨by decide,rfl,Tryz.underlying5,ab,by decide,rfl,Tryz.underlying5,ab,ab⟩⟩
def i292:TI:=⟨32,32,true,TypeDesc.array 16 291,[.int .u8 0,.int .u8 0,.int .u8 0,.int .u8 0,.int .u8 0,.int .u8 0,.int .u8 0,.int .u8 0,.int .u8 0,.int .u8 0,.int .u8 0,.int .u8 0,.int .u8 0,.int .u8 0,.int .u8 0,.int .u8 0,.int .u8 0,.int .u8 0,.int .u8 0,.int .u8 0,.int .u8 0,.int .u8 0,.int .u8 0,.int .u8 0,.int .u8 0,.int .u8 0,.int .u8 0,.int .u8 0,.int .u8 0,.int .u8 0,.int .u8 0,.int .u8 0],[]⟩
theorem Rg:aC Tryz.prog 292 i292:=⟨Tryz.underlying292,rfl,⟨Tryz.t292,_,av Tryz.type292,rfl,rfl,rfl,rfl,⟨_,rfl⟩,rfl⟩,λh=>absurd rfl h⟩
def i293:TI:=⟨1,8,false,TypeDesc.pointer 313,[.kg],[]⟩
theorem Rh:aC Tryz.prog 293 i293:=⟨Tryz.underlying293,rfl,⟨Tryz.t293,_,av Tryz.type293,rfl,rfl,rfl,rfl,⟨#[],rfl⟩,rfl⟩,λh=>absurd rfl h⟩
def i296:TI:=⟨0,0,true,TypeDesc.array 0 16,[],[]⟩
theorem Ri:aC Tryz.prog 296 i296:=⟨Tryz.underlying296,rfl,⟨Tryz.t296,_,av Tryz.type296,rfl,rfl,rfl,rfl,⟨_,rfl⟩,rfl⟩,λh=>absurd rfl h⟩
def i298:TI:=⟨0,0,true,TypeDesc.struct #[{ name:= "_",type:=296,offset:=0,embedded:=false,tag:= "",pkgPath:= "runtime",byteOffset:=0 }],[],[]⟩
theorem Rj:aC Tryz.prog 298 i298:=⟨Tryz.underlying298,rfl,⟨Tryz.t298,_,av Tryz.type298,rfl,rfl,rfl,rfl,⟨_,rfl⟩,rfl⟩,λh=>absurd rfl h⟩
def i313:TI:=⟨1,16,true,TypeDesc.struct #[{ name:= "s",type:=9,offset:=0,embedded:=false,tag:= "",pkgPath:= "errors",byteOffset:=0 }],[.str []],[TypeDesc.string]⟩
theorem Rl:aC Tryz.prog 313 i313:=⟨Tryz.underlying313,rfl,⟨Tryz.t313,_,av Tryz.type313,rfl,rfl,rfl,rfl,⟨_,rfl⟩,rfl⟩,λ_=>eF (fs:=[{ name:= "s",type:=9,offset:=0,embedded:=false,tag:= "",pkgPath:= "errors",byteOffset:=0 }]) Tryz.underlying313 (by decide +kernel) Tryz.eqGuardType313 ⟨by decide,rfl,Tryz.underlying9,ab,ab⟩⟩
def tt:List (Nat×TI):=[(3,i3),(4,i4),(5,i5),(9,i9),(16,i16),(20,i20),(21,i21),(22,i22),(23,i23),(24,i24),(26,i26),(27,i27),(29,i29),(31,i31),(32,i32),(34,i34),(37,i37),(38,i38),(39,i39),(41,i41),(43,i43),(44,i44),(45,i45),(47,i47),(57,i57),(71,i71),(73,i73),(77,i77),(81,i81),(83,i83),(98,i98),(104,i104),(106,i106),(114,i114),(116,i116),(118,i118),(120,i120),(122,i122),(124,i124),(129,i129),(133,i133),(144,i144),(148,i148),(156,i156),(163,i163),(165,i165),(177,i177),(186,i186),(188,i188),(189,i189),(191,i191),(192,i192),(193,i193),(195,i195),(197,i197),(200,i200),(210,i210),(212,i212),(215,i215),(219,i219),(236,i236),(237,i237),(239,i239),(257,i257),(291,i291),(292,i292),(293,i293),(296,i296),(298,i298),(313,i313)]
theorem tok:bX Tryz.prog tt:=(bX.cons g3 (bX.cons g4 (bX.cons g5 (bX.cons g9 (bX.cons UX (bX.cons UY (bX.cons UZ (bX.cons U0 (bX.cons U1 (bX.cons U2 (bX.cons U3 (bX.cons U4 (bX.cons U5 (bX.cons U6 (bX.cons U7 (bX.cons U8 (bX.cons U9 (bX.cons Va (bX.cons Vb (bX.cons Vd (bX.cons Ve (bX.cons Vf (bX.cons Vg (bX.cons Vh (bX.cons Vi (bX.cons Vj (bX.cons Vk (bX.cons Vl (bX.cons Vm (bX.cons Vn (bX.cons Vo (bX.cons QH (bX.cons QI (bX.cons QJ (bX.cons QK (bX.cons QL (bX.cons QM (bX.cons QN (bX.cons QO (bX.cons QP (bX.cons QQ (bX.cons QR (bX.cons QS (bX.cons QT (bX.cons QU (bX.cons QV (bX.cons QW (bX.cons QX (bX.cons QY (bX.cons QZ (bX.cons Q0 (bX.cons Q1 (bX.cons Q2 (bX.cons Q3 (bX.cons Q4 (bX.cons Q5 (bX.cons Q6 (bX.cons Q7 (bX.cons Q8 (bX.cons Q9 (bX.cons Ra (bX.cons Rb (bX.cons Rc (bX.cons Re (bX.cons Rf (bX.cons Rg (bX.cons Rh (bX.cons Ri (bX.cons Rj (bX.cons Rl bX.nil))))))))))))))))))))))))))))))))))))))))))))))))))))))))))))))))))))))
end R1
end Go.AM
namespace Go.AM
abbrev Bs:=List UInt8
abbrev dS(s:Bs):D:=.e (.one (.c (.str s)))
abbrev dI(n:Int):D:=.e (.one (.c (.int .i64 n)))
abbrev dU(n:Int):D:=.e (.one (.c (.int .u8 n)))
abbrev dB(b:Bool):D:=.e (.one (.c (.bool b)))
theorem gQ{s:Bs}{i:Nat}:fA s i=s.getD i 0:=rfl
namespace R1
open Go.Proofs
variable {X:Cx Tryz.prog}
theorem du:Tryz.prog.follows Departure.mixedOrders=true:=rfl
theorem af{X:Cx Tryz.prog}{CT:List (Nat×bH)}(c:aO X CT)(ds:List (Nat×Bool)){N:Nat}{Qf:Post}(n:Nat){K b:List It}{φ φ':Fr}{σ σ':List ak}{a:List Prop}
  (h:AM.dc tt CT ds N n K φ σ []=some (b,φ',σ',a)) (d:aa a) (k:AK X N Qf b .normal φ' σ'):AK X N Qf K .normal φ σ:=AK.dc du tok c ds n h d k
theorem aF{X:Cx Tryz.prog}(ds:List (Nat×Bool)){N:Nat}{Qf:Post}(n:Nat){K b:List It}{φ φ':Fr}{σ σ':List ak}{a:List Prop}
  (h:AM.dc tt [] ds N n K φ σ []=some (b,φ',σ',a)) (c:aa a) (k:AK X N Qf b .normal φ' σ'):AK X N Qf K .normal φ σ:=AK.dc du tok aO.nil ds n h c k
theorem bw{X:Cx Tryz.prog}{N:Nat}{Qf:Post}{K b:List It}{φ φ':Fr}{σ σ':List ak}{a:List Prop}
  (h:AM.dc tt [] [] N 100 K φ σ []=some (b,φ',σ',a)) (c:aa a) (k:AK X N Qf b .normal φ' σ'):AK X N Qf K .normal φ σ:=AK.dc du tok aO.nil [] 100 h c k
theorem eX{X:Cx Tryz.prog}{N:Nat}{Qf:Post}{K b:List It}{φ φ':Fr}{σ σ':List ak}{a:List Prop}
  (h:AM.dc tt [] [] N 200 K φ σ []=some (b,φ',σ',a)) (c:aa a) (k:AK X N Qf b .normal φ' σ'):AK X N Qf K .normal φ σ:=AK.dc du tok aO.nil [] 200 h c k
def ji(b:Int):Bool:=decide (97<=b)&&decide (b<=101)
theorem H9(b:Int):Ev X 145 [dU b] [] (dB (ji b)) []:=by
 refine Ev.body Tryz.func145 rfl rfl rfl λ_=>?_
 by_cases h:97<=b
 ·refine aF [(4,true)] 100 rfl ?_ (AK.au rfl ?_) <;> simp[aa,h,ji]
 ·refine aF [(4,false)] 100 rfl ?_ (AK.au rfl ?_) <;> simp[aa,h,ji]
def cW(b:UInt8):Bool:=decide (97<=b.toNat)&&decide (b.toNat<=122)
def bn(s:Bs):Bool:=s.all cW
theorem n6{s:Bs}(h:∀ j,j<s.length->cW (s.getD j 0)=true):bn s=true:=by
 simp only[bn,List.all_eq_true];intro b a;obtain⟨i,hi,rfl⟩:=dH a;have:=h i hi;simpa[List.getD_eq_getElem?_getD,aj hi] using this
theorem gZ{s:Bs}{j:Nat}(h:j<s.length)(b:cW (s.getD j 0)=false):bn s=false:=by
 cases a:bn s with
 |false=>rfl
 |true =>
  simp only[bn,List.all_eq_true] at a;have:=a _ (gF h);simp[List.getD_eq_getElem?_getD,aj h] at b;rw[b] at this;cases this
theorem zg(s:Bs):Ev X 143 [dS s] [] (dB (bn s)) []:=by
 refine Ev.body Tryz.func143 rfl rfl rfl λe=>?_
 have f:=e.str 0 rfl;refine bw rfl ab ?_;refine AK.qQ (λi=>i<=s.length/\∀ j,j<i->cW (s.getD j 0)=true) (λi:Nat=>[(0,dS s),(3,dI i)]) (λ_=>[]) (λi=>s.length-i) 0 rfl (by simp[aa.cat,aa]) ⟨by omega,by omega⟩ rfl ?_
 rintro i ⟨hi,a⟩
 by_cases h:i<s.length
 ·generalize c:s.getD i 0=b
  by_cases k:b.toNat<97
  ·refine aF [(7,true),(13,true)] 100 rfl ?_ (AK.dW (aW.zero rfl ?_))
   ·simp only[aa,gQ,aD,c];omega
   ·rw[aa,gZ h (by rw[c];simp only[cW,nc,a9];omega)]
  ·by_cases g:b.toNat>122
   ·refine aF [(7,true),(13,false),(18,true)] 100 rfl ?_ (AK.dW (aW.zero rfl ?_))
    ·simp only[aa,gQ,aD,a9,c];omega
    ·rw[aa,gZ h (by rw[c];simp only[cW,nc,a9];omega)]
   ·refine aF [(7,true),(13,false),(18,false)] 100 rfl ?_ (AK.again (i+1) rfl ?_ ?_ ?_ rfl)
    ·simp only[aa,gQ,aD,a9,c,aB];omega
    ·simp[aa.cat,aa]
    ·refine⟨by omega,λj d=>?_⟩
     rcases dG.1 d with d|rfl
     ·exact a j d
     ·rw[c];simp only[cW,bF,aD];omega
    ·omega
 ·refine aF [(7,false)] 100 rfl (by simp[aa];omega) (AK.leave rfl rfl ?_)
  refine bw rfl ab (AK.au rfl ?_);rw[aa,n6 (λj d=>a j (by omega))]
end R1
theorem Ev.args{P:Program}{X:Cx P}{f:FuncId}{args Js:List D}{σ σ':List ak}{res:D}(h:Ev X f Js σ res σ')(hl:∀ s vs,bZ σ s vs args->bZ σ s vs Js):Ev X f args σ res σ' :=
 ⟨h.1,λs vs hr hh=>h.2 s vs (hl s vs hr) hh⟩
def jL(a:Nat):D->Option (Nat×(Nat->List C))
 |.e (.one (.c (.sl _ k n es)))=>match Nat.beq k a with
  |true=>some (n,es)
  |false=>match Nat.beq n 0 with
   |true=>some (0,λ_=>[])
   |false=>none
 |_=>none
theorem Fx{g:Nat}{d:D}{n:Nat}{es:Nat->List C}(h:jL g d=some (n,es)){σ:List ak}{s:St}{v:Value}(r:b5 σ s v d):Rd s.M v (.sl false g n es):=by
 unfold jL at h;split at h
 ·rename_i t k q es'
  split at h
  ·rename_i i
   have e:=bk i;subst e;cases h;exact(eB r).loose
  ·split at h
   ·rename_i l
    have e:=bk l;subst e;cases h;have r':=eB r;cases r' with
    |sl b off f a j m i p u o=>exact Rd.sl b off f a j (by simp) (by omega) (by omega) (by omega) (by omega)
   ·cases h
 ·cases h
def CZ{α:Type}(enc:α->List C)(bD:α)(l:List α):Nat->List C:=λi=>enc (l.getD i bD)
structure jm (α:Type) where
 k:Nat
 enc:α->List C
 dec:List C->α
 bD:α
 inv:∀ a,dec (enc a)=a
 len:∀ a,(enc a).length=k
namespace jm
variable {α:Type}(c:jm α)
def list(n:Nat)(es:Nat->List C):List α:=(List.range n).map λi=>c.dec (es i)
def fn(l:List α):Nat->List C:=CZ c.enc c.bD l
def fits(n:Nat)(es:Nat->List C):Prop:=∀ i,i<n->es i=c.enc (c.dec (es i))
def sl(l:List α):D:=.e (.one (.c (.sl false c.k l.length (c.fn l))))
theorem xk{n:Nat}{es:Nat->List C}:(c.list n es).length=n:=by simp[list]
theorem list_fn(l:List α):c.list l.length (c.fn l)=l:=by
 apply pO
 ·simp[list]
 ·intro i b a;simp[list,fn,CZ,List.getD_eq_getElem?_getD,aj a,c.inv]
theorem ae(l:List α){n:Nat}:c.fits n (c.fn l):=λi _=>by simp[fn,CZ,c.inv]
theorem Ia{n:Nat}{es:Nat->List C}(h:c.fits n es):ay n es (c.fn (c.list n es)):=by
 intro i hi;rw[h i hi];simp[fn,CZ,list,List.getD_eq_getElem?_getD,hi]
theorem jf{d:D}{n:Nat}{es:Nat->List C}(h:jL c.k d=some (n,es))(e:c.fits n es){σ:List ak}{s:St}{v:Value}(r:b5 σ s v d):b5 σ s v (c.sl (c.list n es)):=by
 have b:=Fx h r;have a:=b.x4 (c.Ia e);show Rd s.M v (.sl false c.k (c.list n es).length _);rw[c.xk];exact a
end jm
def bd(s:Bs)(i:Nat):Int:=(s.getD i 0).toNat
theorem bl(s:Bs) (j:Int):((fA s j).toNat:Int)=bd s j.toNat:=rfl
abbrev di:=Bs×Bs
def wJ(cs:List C)(j:Nat):Bs:=match en j cs with|some (.str s)=>s|_=>[]
def te(cs:List C)(j:Nat):Int:=match en j cs with|some (.int _ s)=>s|_=>0
def cF:jm di:={ k:=2,enc:=λf=>[.str f.1,.str f.2],dec:=λcs=>(wJ cs 0,wJ cs 1),bD:=([],[]),inv:=λ_=>rfl,len:=λ_=>rfl }
namespace R1
open Go.Proofs
variable {X:Cx Tryz.prog}
def Lg:bH:=λargs σ=>match args,σ with
 |[.e (.one (.c (.int .u8 b)))],[]=>some (dB (ji b),[],[])
 |_,_=>none
theorem t145:bU X 145 Lg:=by
 intro args σ res σ' obs h _;unfold Lg at h;split at h
 ·cases h;exact H9 _
 ·cases h
def HV:bH:=λargs σ=>match args,σ with
 |[.e (.one (.c (.str b)))],[]=>some (dB (bn b),[],[])
 |_,_=>none
theorem t143:bU X 143 HV:=by
 intro args σ res σ' obs h _;unfold HV at h;split at h
 ·cases h;exact zg _
 ·cases h
def SA:List (Nat×bH):=[(145,Lg),(143,HV)]
theorem xl:aO X SA:=aO.cons t145 (aO.cons t143 aO.nil)
def cv(s:Bs):Bool:=if s.length=1 then ji (bd s 0) else if s.length=3 then ji (bd s 0)&&(bd s 1==47)&&ji (bd s 2) else false
theorem Cn(s:Bs):Ev X 109 [dS s] [] (dB (cv s)) []:=by
 refine Ev.body Tryz.func109 rfl rfl rfl λf=>?_
 by_cases e:s.length=1
 ·refine af xl [(6,true)] 100 rfl ?_ (AK.au rfl ?_)
  ·simp[aa,e]
  ·simp[aa,cv,e,bl]
 ·by_cases a:s.length=3
  ·by_cases b:ji (bd s 0)=true
   ·by_cases d:bd s 1=47
    ·refine af xl [(6,false),(11,true),(14,true),(18,true)] 100 rfl ?_ (AK.au rfl ?_)
     ·simp[aa,a,bl,b,d]
     ·simp[aa,cv,a,b,d,bl]
    ·refine af xl [(6,false),(11,true),(14,true),(18,false)] 100 rfl ?_ (AK.au rfl ?_)
     ·simp[aa,a,bl,b,d]
     ·simp[aa,cv,a,b,d]
   ·refine af xl [(6,false),(11,true),(14,false)] 100 rfl ?_ (AK.au rfl ?_)
    ·simp[aa,a,bl,b]
    ·simp[aa,cv,a,b]
  ·refine af xl [(6,false),(11,false)] 100 rfl ?_ (AK.au rfl ?_)
   ·simp[aa];omega
   ·simp[aa,cv,e,a]
def dm(s:Bs):Bool:=decide (s.length<=40)&&bn s
theorem Co(s:Bs):Ev X 106 [dS s] [] (dB (dm s)) []:=by
 refine Ev.body Tryz.func106 rfl rfl rfl λb=>?_
 by_cases a:s.length<=40
 ·refine af xl [(5,true)] 100 rfl ?_ (AK.au rfl ?_)
  ·simp[aa];omega
  ·simp[aa,dm,a]
 ·refine af xl [(5,false)] 100 rfl ?_ (AK.au rfl ?_)
  ·simp[aa];omega
  ·simp[aa,dm,a]
def clash(a b:Bs):Bool:=(a.length != b.length)&&(bd a 0==bd b 0)
theorem Fy(a b:Bs)(h:a≠[])(g:b≠[]):Ev X 110 [dS a,dS b] [] (dB (clash a b)) []:=by
 have d:=List.length_pos_iff.2 h;have f:=List.length_pos_iff.2 g;refine Ev.body Tryz.func110 rfl rfl rfl λi=>?_
 by_cases e:a.length=b.length
 ·refine aF [(9,false)] 100 rfl ?_ (AK.au rfl ?_)
  ·simp[aa,e]
  ·simp[aa,clash,e]
 ·refine aF [(9,true)] 100 rfl ?_ (AK.au rfl ?_)
  ·simp[aa,d,f];omega
  ·simp[aa,clash,e,bl]
end R1
end Go.AM
namespace Go.AM.R1
open Go.Proofs
variable {X:Cx Tryz.prog}
def Lh:bH:=λargs σ=>match args,σ with
 |[.e (.one (.c (.str b)))],[]=>some (dB (cv b),[],[])
 |_,_=>none
theorem t109:bU X 109 Lh:=by
 intro args σ res σ' obs h _;unfold Lh at h;split at h
 ·cases h;exact Cn _
 ·cases h
def H3:bH:=λargs σ=>match args,σ with
 |[.e (.one (.c (.str b)))],[]=>some (dB (dm b),[],[])
 |_,_=>none
theorem t106:bU X 106 H3:=by
 intro args σ res σ' obs h _;unfold H3 at h;split at h
 ·cases h;exact Co _
 ·cases h
def Li:bH:=λargs σ=>match args,σ with
 |[.e (.one (.c (.str a))),.e (.one (.c (.str b)))],[]=>some (dB (clash a b),[],[a≠[],b≠[]])
 |_,_=>none
theorem t110:bU X 110 Li:=by
 intro args σ res σ' obs h a;unfold Li at h;split at h
 ·cases h;exact Fy _ _ a.1 a.2
 ·cases h
def SB:List (Nat×bH):=(109,Lh)::(106,H3)::(110,Li)::SA
theorem oL:aO X SB:=aO.cons t109 (aO.cons t106 (aO.cons t110 xl))
def eh(t:List di)(i:Nat):Bs:=(t.getD i ([],[])).1
def HT(t:List di)(i:Nat):Bs:=(t.getD i ([],[])).2
theorem gy(t:List di)(i:Nat):(t.getD i cF.bD).1=eh t i:=rfl
theorem l4(t:List di)(i:Nat):(t.getD i cF.bD).2=HT t i:=rfl
def fC(t:List di)(i:Nat):Bool:=cv (eh t i)&&dm (HT t i)&&(i==0||Op.bytesLess (eh t (i-1)) (eh t i))&&(List.range i).all λj=>!clash (eh t j) (eh t i)
def im(t:List di):Bool:=(List.range t.length).all (fC t)&&decide (t.length<=6)
theorem ba{n:Nat}{p:Nat->Bool}:(List.range n).all p=true↔∀ i,i<n->p i=true:=by simp[List.all_eq_true]
theorem my{s:Bs}(h:cv s=true):s≠[]:=by rintro rfl;simp[cv] at h
theorem iG{t:List di}{i:Nat}(hi:i<t.length)(h:fC t i=false):im t=false:=by
 cases a:im t with
 |false=>rfl
 |true =>
  simp only[im,bF] at a;rw[ba.1 a.1 i hi] at h;cases h
theorem Cp(t:List di):Ev X 88 [cF.sl t] [] (dB (im t)) []:=by
 refine Ev.body Tryz.func88 rfl rfl rfl λz=>?_
 have w:=z.sl 0 rfl;refine af oL [] 100 rfl ab ?_;refine AK.qQ (λi=>i<=t.length/\∀ j,j<i->fC t j=true) (λi:Nat=>[(0,cF.sl t),(3,dI i)]) (λ_=>[]) (λi=>t.length-i) 0 rfl (by simp[aa.cat,aa,ay]) ⟨by omega,by omega⟩ rfl ?_
 rintro i ⟨hi,c⟩
 by_cases h:i<t.length
 ·by_cases d:cv (eh t i)=true
  ·by_cases g:dm (HT t i)=true
   ·by_cases r:i=0∨Op.bytesLess (eh t (i-1)) (eh t i)=true
    ·apply AK.join [(0,cF.sl t),(3,dI i),(4,dI 0)] []
     ·intro s
      by_cases m:i=0
      ·refine af oL [(8,true),(16,true),(24,true),(29,false)] 100 rfl ?_ (s _ _ rfl ?_)
       ·simp[-List.getD_eq_getElem?_getD,aa,h,gy,l4,d,g];omega
       ·simp[aa.cat,aa,ay]
      ·have n:=r.resolve_left m;have l:aB .i64 ((i:Int)-1):=by simp only[aB];omega
       have v:((i:Int)-1).toNat=i-1:=by omega
       refine af oL [(8,true),(16,true),(24,true),(29,true),(42,false)] 100 rfl ?_ (s _ _ rfl ?_)
       ·simp[-List.getD_eq_getElem?_getD,aa,h,gy,l4,d,g,n,l,v];omega
       ·simp[aa.cat,aa,ay]
     ·
      have f:fC t i=(List.range i).all (λj=>!clash (eh t j) (eh t i)):=by
       rcases r with rfl|n
       ·simp[fC,d,g]
       ·simp[fC,d,g,n]
      refine AK.qQ (λj=>j<=i/\∀ o,o<j->clash (eh t o) (eh t i)=false) (λj:Nat=>[(0,cF.sl t),(3,dI i),(4,dI j)]) (λ_=>[]) (λj=>i-j) 0 rfl (by simp[aa.cat,aa,ay]) ⟨by omega,by omega⟩ rfl ?_
      rintro j ⟨x,p⟩
      by_cases b:j<i
      ·have q:cv (eh t j)=true:=by
        have:=c j b;simp only[fC,bF] at this;exact this.1.1.1
       cases u:clash (eh t j) (eh t i) with
       |true =>
        refine af oL [(47,true),(60,true)] 100 rfl ?_ (AK.dW (AK.nR (aW.zero rfl ?_)))
        ·simp[-List.getD_eq_getElem?_getD,aa,h,b,gy,u,my d,my q];omega
        ·have:fC t i=false:=by
          rw[f];cases y:(List.range i).all (λj=>!clash (eh t j) (eh t i)) with
          |false=>rfl
          |true=>have:=ba.1 y j b;simp[u] at this
         simp[aa,iG h this]
       |false =>
        refine af oL [(47,true),(60,false)] 100 rfl ?_ (AK.again (j+1) rfl ?_ ?_ ?_ rfl)
        ·simp[-List.getD_eq_getElem?_getD,aa,h,b,gy,u,my d,my q,aB];omega
        ·simp[aa.cat,aa,ay]
        ·refine⟨by omega,λo a=>?_⟩
         rcases dG.1 a with a|rfl
         ·exact p o a
         ·exact u
        ·omega
      ·have b:j=i:=by omega
       subst b;refine af oL [(47,false)] 100 rfl (by simp[aa]) (AK.leave rfl rfl ?_)
       refine af oL [] 100 rfl ?_ (AK.again (j+1) rfl ?_ ?_ ?_ rfl)
       ·simp[aa,aB];omega
       ·simp[aa.cat,aa,ay]
       ·refine⟨by omega,λo a=>?_⟩
        rcases dG.1 a with a|rfl
        ·exact c o a
        ·rw[f,ba];intro k s;simp[p k s]
       ·omega
    ·have m:i≠0:=λe=>r (.inl e)
     have n:Op.bytesLess (eh t (i-1)) (eh t i)=false:=by simpa usingλe=>r (.inr e)
     have l:aB .i64 ((i:Int)-1):=by simp only[aB];omega
     have v:((i:Int)-1).toNat=i-1:=by omega
     refine af oL [(8,true),(16,true),(24,true),(29,true),(42,true)] 100 rfl ?_ (AK.dW (aW.zero rfl ?_))
     ·simp[-List.getD_eq_getElem?_getD,aa,h,gy,l4,d,g,n,l,v];omega
     ·simp[aa,iG h (by simp[fC,m,n])]
   ·refine af oL [(8,true),(16,true),(24,false)] 100 rfl ?_ (AK.dW (aW.zero rfl ?_))
    ·simp[-List.getD_eq_getElem?_getD,aa,h,gy,l4,d,g]
    ·simp[aa,iG h (by simp[fC,g])]
  ·refine af oL [(8,true),(16,false)] 100 rfl ?_ (AK.dW (aW.zero rfl ?_))
   ·simp[-List.getD_eq_getElem?_getD,aa,h,gy,d]
   ·simp[aa,iG h (by simp[fC,d])]
 ·refine af oL [(8,false)] 100 rfl (by simp[aa];omega) (AK.leave rfl rfl ?_)
  refine af oL [] 100 rfl ab (AK.au rfl ?_);simp only[aa,im];rw[ba.2 (λj x=>c j (by omega))]
  simp;omega
end Go.AM.R1
namespace Go.AM
open Go.Conc (G)
def Bu(σ σ':List ak):Prop:=∀ (s:St),ag σ s->ag σ' s/\Step σ s σ' s/\∀ (v:Value)(d:D),b5 σ s v d->b5 σ' s v d
def P4:ak->ak->Option (List Prop)
 |.vec E k n es,.vec E' k' n' es'=>match Nat.beq E E',Nat.beq k k' with
  |true,true=>some [n=n',ay n es es']
  |_,_=>none
 |.cells E cs,.cells E' lN=>match Nat.beq E E' with
  |true=>I8 cs lN
  |false=>none
 |.dead,.dead=>some []
 |.cQ H,.cQ H'=>some [H=H']
 |.loop N φ r,.loop N' φ' r'=>some [ak.loop N φ r=ak.loop N' φ' r']
 |.oc,.oc=>some []
 |.buf E k n es,.buf E' k' n' es'=>match Nat.beq E E',Nat.beq k k' with
  |true,true=>some [n=n',ay n es es']
  |_,_=>none
 |_,_=>none
def py:List ak->List ak->Option (List Prop)
 |[],[]=>some []
 |a::r,b::q=>match P4 a b with
  |some p=>match py r q with
   |some ps=>some (iZ p ps)
   |none=>none
  |none=>none
 |_,_=>none
def Hm(B B':ak):Prop :=
 (∀ E k n es,B=.vec E k n es->∃ es',B'=.vec E k n es'/\ay n es es')/\((∀ E k n es,B≠.vec E k n es)->(∀ E k n es,B'≠.vec E k n es)/\(B=B'∨(∃ E cs lN,B=.cells E cs/\B'=.cells E lN/\∀ σ s vs,cu σ s vs cs->cu σ s vs lN)∨∃ E k n es es',B=.buf E k n es/\B'=.buf E k n es'/\ay n es es'))
theorem Kc{B B':ak}{ps:List Prop}(h:P4 B B'=some ps)(a:aa ps):Hm B B':=by
 unfold P4 at h;split at h
 ·rename_i E k n es E' k' n' es'
  split at h
  ·rename_i d j
   cases h;have b:=bk d;have g:=bk j;obtain⟨i,f⟩:n=n'/\ay n es es':=a;subst b g i;refine⟨λE0 k0 n0 RF he=>?_,λm=>absurd rfl (m _ _ _ _)⟩
   cases he;exact⟨es',rfl,f⟩
  ·cases h
 ·rename_i E cs E' lN
  split at h
  ·rename_i d
   have b:=bk d;subst b;exact⟨λ_ _ _ _ he=>(by cases he),λ_=>⟨λ_ _ _ _ he=>(by cases he),.inr (.inl ⟨E,cs,lN,rfl,rfl,λσ s vs r=>yv h a r⟩)⟩⟩
  ·cases h
 ·exact⟨λ_ _ _ _ he=>(by cases he),λ_=>⟨λ_ _ _ _ he=>(by cases he),.inl rfl⟩⟩
 ·cases h
  rename_i H H'
  have e:H=H':=a;subst e;exact⟨λ_ _ _ _ he=>(by cases he),λ_=>⟨λ_ _ _ _ he=>(by cases he),.inl rfl⟩⟩
 ·cases h
  rename_i N φ r l φ' r'
  have e:ak.loop N φ r=ak.loop l φ' r':=a;exact⟨λ_ _ _ _ he=>(by cases he),λ_=>⟨λ_ _ _ _ he=>(by cases he),.inl e⟩⟩
 ·exact⟨λ_ _ _ _ he=>(by cases he),λ_=>⟨λ_ _ _ _ he=>(by cases he),.inl rfl⟩⟩
 ·rename_i E k n es E' k' n' es'
  split at h
  ·rename_i d j
   cases h;have b:=bk d;have g:=bk j;obtain⟨i,f⟩:n=n'/\ay n es es':=a;subst b g i;exact⟨λ_ _ _ _ he=>(by cases he),λ_=>⟨λ_ _ _ _ he=>(by cases he),.inr (.inr ⟨E,k,n,es,es',rfl,rfl,f⟩)⟩⟩
  ·cases h
 ·cases h
theorem wo:∀ {σ σ':List ak}{ps:List Prop},py σ σ'=some ps->aa ps->σ'.length=σ.length/\∀ (l:Nat)(B B':ak),σ[l]?=some B->σ'[l]?=some B'->Hm B B'
 |[],[],_,_,_=>⟨rfl,λl B B' h=>by simp at h⟩
 |[],_::_,_,h,_=>by cases h
 |_::_,[],_,h,_=>by cases h
 |a::r,b::q,ps,h,d=>by
  simp only[py] at h;split at h
  ·rename_i p f
   split at h
   ·rename_i p2 h2
    cases h;rw[aa.cat] at d;obtain⟨g,e⟩:=wo h2 d.2;refine⟨by simp[g],λl B B' hB ir=>?_⟩
    cases l with
    |zero=>simp at hB ir;subst hB ir;exact Kc f d.1
    |succ l=>exact e l B B' (by simpa using hB) (by simpa using ir)
   ·cases h
  ·cases h
theorem jI{σ σ':List ak}{ps:List Prop}(h:py σ σ'=some ps)(hp:aa ps):Bu σ σ':=by
 obtain⟨V,hg⟩:=wo h hp;intro s Q;have T:∀ (l:Nat) (B:ak),σ[l]?=some B->∃ B',σ'[l]?=some B'/\Hm B B':=by
  intro l B i;have u:l<σ'.length:=by rw[V];exact(aE.1 i).1
  exact⟨σ'[l],aj u,hg l B _ i (aj u)⟩
 have get:∀ (l:Nat) (B':ak),σ'[l]?=some B'->∃ B,σ[l]?=some B/\Hm B B':=by
  intro l B' i;have u:l<σ.length:=by rw[<-V];exact(aE.1 i).1
  exact⟨σ[l],aj u,hg l _ B' (aj u) i⟩
 have j:∀ (l:Nat),(∀ B,σ[l]?=some B->B.gr=false)->∀ B,σ'[l]?=some B->B.gr=false:=by
  intro l hn B' he;obtain⟨B,i,p⟩:=get l _ he;have y:=hn B i;rcases(p.2 (λE k n es e=>by rw[e] at y;cases y)).2 with rfl|⟨E,cs,C,rfl,rfl,_⟩|⟨E,k,n,es,es',rfl,rfl,_⟩
  ·exact y
  ·rfl
  ·cases y
 have I:∀ (l:Nat) E k n es,σ'[l]?=some (ak.buf E k n es)->∃ es',σ[l]?=some (ak.buf E k n es'):=by
  intro l E k n es he;obtain⟨B,i,p⟩:=get l _ he
  by_cases q:∃ E k n es,B=ak.vec E k n es
  ·obtain⟨E1,k1,n1,U,rfl⟩:=q;obtain⟨es',f,_⟩:=p.1 _ _ _ _ rfl;cases f
  ·rcases(p.2 (λE k n es e=>q ⟨E,k,n,es,e⟩)).2 with rfl|⟨E,cs,C,rfl,h,_⟩|⟨E,k,n,es,es',rfl,h,_⟩
   ·exact⟨es,i⟩
   ·cases h
   ·cases h;exact⟨_,i⟩
 have G:∀ (l:Nat) E k n es,σ'[l]?=some (ak.vec E k n es)->∃ es',σ[l]?=some (ak.vec E k n es'):=by
  intro l E k n es he;obtain⟨B,i,p⟩:=get l _ he
  by_cases q:∃ E k n es,B=ak.vec E k n es
  ·obtain⟨E1,k1,n1,U,rfl⟩:=q;obtain⟨es',f,_⟩:=p.1 _ _ _ _ rfl;cases f;exact⟨U,i⟩
  ·exact absurd rfl ((p.2 (λE k n es e=>q ⟨E,k,n,es,e⟩)).1 E k n es)
 have R:∀ (v:Value) (a:A),eQ σ s v a->eQ σ' s v a:=by
  intro v a r;cases a with
  |c x=>exact r
  |ptr l o=>exact⟨j l r.1,r.2⟩
  |vec l k n es =>
   refine⟨r.1,by rw[V];exact r.2.1,λE k' n' es' he=>?_⟩
   obtain⟨O,g⟩:=G l E k' n' es' he;exact r.2.2 E k' n' O g
  |ref l=>exact⟨j l r.1,r.2⟩
  |bp l w =>
   obtain⟨lv,r1,r2,r3⟩:=r;refine⟨lv,r1,by rw[V];exact r2,λE k' n' es' he=>?_⟩
   obtain⟨O,g⟩:=I l E k' n' es' he;exact r3 E k' n' O g
  |any=>exact r
 have J:∀ (vs:List Value) (cs:List A),cu σ s vs cs->cu σ' s vs cs:=by
  intro vs
  induction vs with
  |nil=>intro cs r;cases cs with|nil=>trivial|cons _ _=>exact r.elim
  |cons v vs ih=>intro cs r;cases cs with|nil=>exact r.elim|cons c cs=>exact⟨R _ _ r.1,ih _ r.2⟩
 have W:∀ (v:Value) (e:E1),jr σ s v e->jr σ' s v e:=by
  intro v e r;cases e with
  |one a=>exact R _ _ r
  |agg cs=>obtain⟨vs,f,g⟩:=r;exact⟨vs,f,J _ _ g⟩
 have S:∀ (vs:List Value) (cs:List E1),dX σ s vs cs->dX σ' s vs cs:=by
  intro vs
  induction vs with
  |nil=>intro cs r;cases cs with|nil=>trivial|cons _ _=>exact r.elim
  |cons v vs ih=>intro cs r;cases cs with|nil=>exact r.elim|cons c cs=>exact⟨W _ _ r.1,ih _ r.2⟩
 have Y:∀ (v:Value) (d:D),b5 σ s v d->b5 σ' s v d:=by
  intro v d r;cases d with
  |e x=>exact W _ _ r
  |eD xs=>obtain⟨vs,f,g⟩:=r;exact⟨vs,f,S _ _ g⟩
  |any=>trivial
 refine⟨⟨Q.mem,by rw[Q.len,V],?_,Q.eE,Q.lt,Q.own⟩,⟨ar _,λ_ _ _=>rfl,λ_ _ _ h=>h,λ_ _ _ _=>rfl,λL h b m=>.inr ⟨L,h,m⟩,?_,rfl,rfl,rfl,rfl⟩,Y⟩
 ·intro l B' L F hL;obtain⟨B,i,p⟩:=get l B' F;have m:=Q.box l B L i hL
  by_cases q:∃ E k n es,B=ak.vec E k n es
  ·obtain⟨E,k,n,es,rfl⟩:=q;obtain⟨es',rfl,he⟩:=p.1 _ _ _ _ rfl;refine⟨m.1.x4 he,?_⟩;rcases m.2 with⟨f,g⟩|f
   ·exact .inl ⟨f,g.x4 he⟩
   ·exact .inr f
  ·rcases(p.2 (λE k n es e=>q ⟨E,k,n,es,e⟩)).2 with rfl|⟨E,cs,C,rfl,rfl,Z⟩|⟨E,k,n,es,es',rfl,rfl,Z⟩
   ·cases B with
    |cells E cs=>obtain⟨b,vs,f,g,z,M⟩:=m;exact⟨b,vs,f,g,J _ _ z,M⟩
    |vec E k n es=>exact absurd ⟨E,k,n,es,rfl⟩ q
    |cQ H=>exact m
    |dead=>trivial
    |loop N φ r=>obtain⟨l,tmps,fn,df,f,g,z,M,h5⟩:=m;exact⟨l,tmps,fn,df,f,g,z,λt=>Y _ _ (M t),h5⟩
    |oc=>exact m
    |buf E k n es=>exact m
   ·obtain⟨b,vs,f,g,z,M⟩:=m;exact⟨b,vs,f,g,J _ _ (Z _ _ _ z),M⟩
   ·rcases m with m|⟨b,c0,vs,zs,f,g,z,M,h5,h6,h7⟩
    ·exact .inl m
    ·exact .inr ⟨b,c0,vs,zs,f,g,z,M,h5,h6.x4 Z,h7⟩
 ·intro l B L i hL;obtain⟨B',F,p⟩:=T l B i;refine⟨B',L,F,hL,?_⟩
  by_cases q:∃ E k n es,B=ak.vec E k n es
  ·obtain⟨E,k,n,es,rfl⟩:=q;obtain⟨es',rfl,he⟩:=p.1 _ _ _ _ rfl;exact⟨λ_=>rfl,ar _⟩
  ·rcases(p.2 (λE k n es e=>q ⟨E,k,n,es,e⟩)).2 with rfl|⟨E,cs,C,rfl,rfl,Z⟩|⟨E,k,n,es,es',rfl,rfl,_⟩
   ·exact fW.refl _ _
   ·exact rfl
   ·exact⟨λ_=>rfl,ar _⟩
section
variable {P:Program}{X:Cx P}{N:Nat}{Qf:Post}{K:List It}{φ:Fr}{σ:List ak}{c:Code}
theorem AW.ghost{Q:Post}{φ':Fr}{σ':List ak}(h:∀ s a,bg N σ s φ a->ag σ s->∃ s':St,s'.w=s.w/\bg N σ' s' φ' a/\ag σ' s'/\Step σ s σ' s')(k:AW X N c Q φ' σ'):AW X N c Q φ σ:=by
 intro s a m hh b kk cs S j n;obtain⟨s',o,i,f,st⟩:=h s a m hh;have d:=st.mG hh;refine .ghost (.of hh f o d) ?_;exact k s' a i f b kk cs S j λe g σ2 s2 a2 q l h2 nA=>n e g σ2 s2 a2 q l h2 (d.trans nA)
theorem AK.ghost{φ':Fr}{σ':List ak}(h:∀ s a,bg N σ s φ a->ag σ s->∃ s':St,s'.w=s.w/\bg N σ' s' φ' a/\ag σ' s'/\Step σ s σ' s')(k:AK X N Qf (.code c::K) .normal φ' σ'):AK X N Qf (.code c::K) .normal φ σ :=
 AW.ghost h k
theorem bg.bs{σ':List ak}{s:St}{a:Act}(b:Bu σ σ')(f:bg N σ s φ a)(hh:ag σ s):bg N σ' s φ a:=⟨f.size,f.defers.imp λ_ h1=>h1.mono (b s hh).2.1.ext,λt=>(b s hh).2.2 _ _ (f.slot t)⟩
theorem AK.norm(σ':List ak){ps:List Prop}(h:py σ σ'=some ps)(b:aa ps)(k:AK X N Qf (.code c::K) .normal φ σ'):AK X N Qf (.code c::K) .normal φ σ :=
 AK.ghost (λs a d hh=>⟨s,rfl,d.bs (jI h b) hh,(jI h b s hh).1,(jI h b s hh).2.1⟩) k
theorem AK.lS(t:Nat)(E:TypeId)(k:Nat){k' n:Nat}{es:Nat->List C}(i:look φ t=.e (.one (.c (.sl true k' n es))))(g:n=0)
  (kk:AK X N Qf (.code c::K) .normal ((t,.e (.one (.vec σ.length k n es)))::φ) (σ++[.vec E k n es])):AK X N Qf (.code c::K) .normal φ σ:=by
 refine AK.ghost (λs a b hh=>?_) kk
 have f:=b.slot t;rw[i] at f;have h1:=Rd.uh (k:=k') (k':=k) (.inr g) (eB f);have d:dq (σ++[.vec E k n es]) { s with β:=s.β++[⟨a.tmps.getD t undef,[]⟩] } (.vec E k n es) ⟨a.tmps.getD t undef,[]⟩:=⟨h1.loose,.inl ⟨⟨rfl,g⟩,h1⟩⟩;obtain⟨g1,g2⟩:=hh.ij (.refl _ _) rfl hh d (by simp)
 refine⟨{ s with β:=s.β++[⟨a.tmps.getD t undef,[]⟩] },rfl,⟨b.size,b.defers.imp λ_ h1=>h1.mono g2.ext,λu=>?_⟩,g1,g2⟩
 simp only[look];cases h:Nat.beq t u with
 |false=>exact(b.slot u).mono g2.ext hh.len
 |true =>
  have e:=bk h;subst e;exact mc (L:=⟨a.tmps.getD t undef,[]⟩) (by simp) (by simp[<-hh.len]) d
theorem AK.eg{S:Type}(I:S->Prop)(fr:S->Fr)(st:S->List ak)(j:S->Nat)(x:S){ps qs:List Prop}(v:nS φ (fr x)=some ps)(E:aa ps)(r:py σ (st x)=some qs)(A:aa qs)(B:I x)
  (round:∀ x,I x->AK X N (λe φ' σ'=>match e with
   |.normal=>∃ y,I y/\j y<j x/\nT φ' (fr y)/\Bu σ' (st y)
   |e=>AK X N Qf K e φ' σ') [.code c] .normal (fr x) (st x)):AK X N Qf (.code (.loop c)::K) .normal φ σ:=by
 intro s a G hh b kk cs SS hb hQ;have h:=jI r A;obtain⟨o,p,_⟩:=h s hh;refine qR (λn a' s'=>∃ y,I y/\bg N (st y) s' (fr y) a'/\ag (st y) s'/\bq σ s (st y) s'/\j y=n) ?_ ?_ ⟨x,B,(G.le (cm v E)).bs h hh,o,p.mG hh,rfl⟩
 ·rintro n a' s' ⟨y,u,k,f,d,e⟩;exact⟨st y,f,λH h1=>⟨y,u,k.rely h1 f,f.rely h1,d.trans h1.stepW,e⟩⟩
 rintro n a' s' ⟨y,u,k,f,d,rfl⟩ F;refine round y u s' a' k f b (.inLoop c::kk) cs SS hb ?_;intro e D σ2 s2 a2 q w h2 nA;cases e with
 |normal =>
  obtain⟨z,C,m,g,i⟩:=q;obtain⟨l,t,_⟩:=i s2 h2;exact F a2 s2 (j z) m ⟨z,C,(w.le g).bs i h2,l,d.trans (nA.trans (t.mG h2)),rfl⟩
 |_=>exact ends.cons (λ_ _=>rfl) (by simp) (hQ _ _ _ _ _ q w h2 (d.trans nA))
theorem AK.cR{S:Type}{I:S->Prop}{fr:S->Fr}{st:S->List ak}{a:S->Nat}{x:S}{Qr:Post}(y:S){ps qs:List Prop}(d:nS φ (fr y)=some ps)(g:aa ps)(b:py σ (st y)=some qs)(i:aa qs)(h:I y)(f:a y<a x) :
  AK X N (λe φ' σ'=>match e with
   |.normal=>∃ y,I y/\a y<a x/\nT φ' (fr y)/\Bu σ' (st y)
   |e=>Qr e φ' σ') [] .normal φ σ:=⟨y,h,f,cm d g,jI b i⟩
end
end Go.AM
namespace Go.AM
theorem bZ.imp{σ:List ak}{s:St}{d a:D}{ds Mr:List D}(h:∀ v,b5 σ s v d->b5 σ s v a)(k:∀ vs,bZ σ s vs ds->bZ σ s vs Mr):∀ vs,bZ σ s vs (d::ds)->bZ σ s vs (a::Mr)
 |[],r=>r.elim
 |v::vs,r=>⟨h v r.1,k vs r.2⟩
abbrev dP(f:di):D:=.e (.agg [.c (.str f.1),.c (.str f.2)])
abbrev Nv(a:List di)(b:Bool):D:=.eD [.one (.c (.sl false 2 a.length (cF.fn a))),.one (.c (.bool b))]
namespace R1
open Go.Proofs
variable {X:Cx Tryz.prog}
def OT:bH:=λargs σ=>match args,σ with
 |[c],[]=>match jL 2 c with
  |none=>none
  |some (a,b)=>some (dB (im (cF.list a b)),[],[cF.fits a b])
 |_,_=>none
theorem t88:bU X 88 OT:=by
 intro args σ res σ' obs h b;unfold OT at h;split at h
 ·split at h
  ·cases h
  rename_i c d a
  cases h;exact(Cp _ ).args (λ_ vs=>bZ.imp (λ_=>cF.jf a b) (λ_ r=>r) vs)
 ·cases h
def SC:List (Nat×bH):=(88,OT)::SB
theorem Rm:aO X SC:=aO.cons t88 oL
end R1
theorem jm.eU{α:Type}(c:jm α)(l:List α)(x:α):ay (l.length+1) (cz l.length (c.fn l) (λi=>[c.enc x].getD i [])) (c.fn (l++[x])):=by
 intro i hi;unfold cz jm.fn CZ
 by_cases h:i<l.length
 ·simp[h,List.getD_eq_getElem?_getD,bS h]
 ·have e:i=l.length:=by omega
  subst e;simp[List.getD_eq_getElem?_getD]
theorem ay.same{n:Nat}{f:Nat->List C}:ay n f f:=λ_ _=>rfl
theorem ay.nil{f g:Nat->List C}:ay 0 f g:=λi h=>by omega
namespace R1
open Go.Proofs
variable {X:Cx Tryz.prog}
def SD:List (Nat×bH):=SC
theorem Rn:aO X SD:=Rm
end R1
end Go.AM
namespace Go.AM.R1
open Go.Proofs
variable {X:Cx Tryz.prog}
theorem fileAt{t:List di}{i:Nat}(h:i<t.length):t[i]=(eh t i,HT t i):=by
 have e:t.getD i ([],[])=t[i]:=by simp[List.getD_eq_getElem?_getD,aj h]
 simp only[eh,HT,e]
end Go.AM.R1
namespace Go.AM
namespace R1
open Go.Proofs
variable {X:Cx Tryz.prog}
def SE:List (Nat×bH):=SD
theorem Ro:aO X SE:=Rn
def SF:List (Nat×bH):=SE
theorem Rp:aO X SF:=Ro
end R1
end Go.AM
namespace Go.AM.R1
def dl(s:Bs)(i:Nat):Int:=(bd s i-97) % 256
def jq(t:Bs)(e:Nat):Bool:=(dl t (e-1)+2*dl t (e-2)+3*dl t (e-3)) % 5==0
def oD(t:Bs)(f:Nat):Nat->Nat
 |0=>min (f+8) t.length
 |k+1=>if t.length<=f+(7-k) then t.length else if jq t (f+(7-k)) then f+(7-k) else oD t f k
def cutAt(t:Bs)(f:Nat):Nat:=oD t f 5
theorem AO(t:Bs)(f:Nat)(a:f<t.length):∀ k,k<=5->f<oD t f k/\oD t f k<=t.length/\oD t f k<=f+8
 |0,_=>by simp only[oD];omega
 |k+1,b=>by
  simp only[oD];split
  ·omega
  ·split
   ·omega
   ·exact AO t f a k (by omega)
theorem lZ(t:Bs)(f:Nat)(a:f<t.length):f<cutAt t f/\cutAt t f<=t.length/\cutAt t f<=f+8:=AO t f a 5 (by omega)
def jM(t:Bs):Nat->Nat->List Nat
 |0,_=>[]
 |k+1,f=>if f<t.length then cutAt t f::jM t k (cutAt t f) else []
def ve(t:Bs):List Nat:=jM t t.length 0
def eT(t:Bs):Nat->Nat->List Bs
 |0,_=>[]
 |k+1,f=>if f<t.length then (t.drop f).take (cutAt t f-f)::eT t k (cutAt t f) else []
def pieces(t:Bs):List Bs:=eT t t.length 0
def dY(l:List Bs):Option Bs:=if dm l.flatten&&(pieces l.flatten==l) then some l.flatten else none
def aY(p:Bs):Bool:=decide (1<=p.length)&&decide (p.length<=8)&&bn p
def codeOf(p:Bs):Int:=p.foldl (λn b=>27*n+((b.toNat:Int)-97) % 256+1) 0
def bO(k:Int):Bool:=decide (1<=k)&&decide (k<=99)
def kz(k:Int)(p:Bs):Int:=(codeOf p*(2*k+1)+k*7919) % 999999999989
def bo(n:Nat):Nat:=if n<1∨8<n then 0 else if n<=2 then 2 else if n<=4 then 4 else 8
def gn(p:Bs):Bs:=if aY p then p++List.replicate (bo p.length-p.length) 46 else []
def strip(b:Bs):Bs:=(b.reverse.dropWhile (·==46)).reverse
def c8(b:Bs):Option Bs:=if aY (strip b)&&(gn (strip b)==b) then some (strip b) else none
abbrev ew:=Int×Bs
abbrev aR:=Int×List ew
def right(k:Int)(x:ew):Bool:=match c8 x.2 with|some p=>kz k p==x.1|none=>false
def u9(l:List Int):Bool:=(List.range l.length).all λi=>i==0||decide (l.getD (i-1) 0<l.getD i 0)
def gO(k:Int)(p:aR):Bool :=
 decide (1<=p.1)&&decide (p.1<=99)&&bO k&&decide (1<=p.2.length)&&decide (p.2.length<=4)&&p.2.all (right k)&&u9 (p.2.map (·.1))
def chunk(k:Int)(x:ew):Option Bs:=match c8 x.2 with|some p=>if bO k&&(kz k p==x.1) then some p else none|none=>none
def cn(k:Int)(p:aR) (n:Int):Option Bs:=match p.2.find? (λx=>x.1==n) with|some x=>chunk k x|none=>none
def N1(l:List ew)(x:ew):List ew:=match l with
 |[]=>[x]
 |y::r=>if x.1<y.1 then x::y::r else y::N1 r x
def Fv(no k:Int)(ps:List Bs):aR:=(no,ps.foldl (λl p=>N1 l (kz k p,gn p)) [])
abbrev Nt:=Int×Int
abbrev cN:=Bs×List Int
abbrev cy:=Int×List cN
def N2(k:Int)(f:di):cN:=(f.1,(pieces f.2).map (kz k))
def Lf(no k:Int)(t:List di):cy:=(no,t.map (N2 k))
def b9(k:Int)(ps:List aR) (n:Int):Option Bs:=ps.findSome? λp=>cn k p n
end Go.AM.R1
namespace Go.AM
def BG(cs:List C)(j:Nat):Nat×(Nat->List C):=match en j cs with|some (.sl _ _ n es)=>(n,es)|_=>(0,λ_=>[])
def cI:jm Int:={ k:=1,enc:=λn=>[.int .i64 n],dec:=λcs=>te cs 0,bD:=0,inv:=λ_=>rfl,len:=λ_=>rfl }
def cS:jm Bs:={ k:=1,enc:=λs=>[.str s],dec:=λcs=>wJ cs 0,bD:=[],inv:=λ_=>rfl,len:=λ_=>rfl }
namespace R1
def cK:jm ew:={ k:=2,enc:=λx=>[.int .i64 x.1,.str x.2],dec:=λcs=>(te cs 0,wJ cs 1),bD:=(0,[]),inv:=λ_=>rfl,len:=λ_=>rfl }
def Up:jm Nt:={ k:=2,enc:=λx=>[.int .i64 x.1,.int .i64 x.2],dec:=λcs=>(te cs 0,te cs 1),bD:=(0,0),inv:=λ_=>rfl,len:=λ_=>rfl }
abbrev sP(p:aR):C:=.sl false 2 p.2.length (cK.fn p.2)
def cP:jm aR:={ k:=2,enc:=λp=>[.int .i64 p.1,sP p],dec:=λcs=>(te cs 0,cK.list (BG cs 1).1 (BG cs 1).2),bD:=(0,[]),inv:=λp=>by show (p.1,cK.list p.2.length (cK.fn p.2))=p;rw[cK.list_fn],len:=λ_=>rfl }
def cL:jm cN:={ k:=2,enc:=λx=>[.str x.1,.sl false 1 x.2.length (cI.fn x.2)],dec:=λcs=>(wJ cs 0,cI.list (BG cs 1).1 (BG cs 1).2),bD:=([],[]),inv:=λp=>by show (p.1,cI.list p.2.length (cI.fn p.2))=p;rw[cI.list_fn],len:=λ_=>rfl }
def cG:jm cy:={ k:=2,enc:=λx=>[.int .i64 x.1,.sl false 2 x.2.length (cL.fn x.2)],dec:=λcs=>(te cs 0,cL.list (BG cs 1).1 (BG cs 1).2),bD:=(0,[]),inv:=λp=>by show (p.1,cL.list p.2.length (cL.fn p.2))=p;rw[cL.list_fn],len:=λ_=>rfl }
def cH:jm (Int×Int):=Up
abbrev Jf(p:aR):D:=.e (.agg [.c (.int .i64 p.1),.c (sP p)])
abbrev OM(r:Option Bs):D:=.e (.agg [.c (.str (r.getD [])),.c (.bool r.isSome)])
end R1
structure Arg (α:Type) where
 enc:α->D
 arg:D->Option (α×List Prop)
 ok:∀ {d a o},arg d=some (a,o)->aa o->∀ {σ:List ak} {s:St} {v:Value},b5 σ s v d->b5 σ s v (enc a)
def aI:Arg Int:=⟨dI,λd=>match d with|.e (.one (.c (.int .i64 n)))=>some (n,[])|_=>none,λ{d a o} h _ _ _ _ r=>by
 split at h
 ·cases h;exact r
 ·cases h⟩
def aS:Arg Bs:=⟨dS,λd=>match d with|.e (.one (.c (.str n)))=>some (n,[])|_=>none,λ{d a o} h _ _ _ _ r=>by
 split at h
 ·cases h;exact r
 ·cases h⟩
def aL{α:Type}(c:jm α):Arg (List α):=⟨c.sl,λd=>match jL c.k d with|some (n,es)=>some (c.list n es,[c.fits n es])|none=>none,λ{d a o} h b _ _ _ r=>by
 split at h
 ·rename_i n es he
  cases h;exact c.jf he b r
 ·cases h⟩
def yJ:Arg (Int×Bs):=⟨λx=>.e (.agg [.c (.int .i64 x.1),.c (.str x.2)]),λd=>match d with|.e (.agg [.c (.int .i64 a),.c (.str b)])=>some ((a,b),[])|_=>none,λ{d a o} h _ _ _ _ r=>by
 split at h
 ·cases h;exact r
 ·cases h⟩
def tf:Arg (Int×Int):=⟨λx=>.e (.agg [.c (.int .i64 x.1),.c (.int .i64 x.2)]),λd=>match d with|.e (.agg [.c (.int .i64 a),.c (.int .i64 b)])=>some ((a,b),[])|_=>none,λ{d a o} h _ _ _ _ r=>by
 split at h
 ·cases h;exact r
 ·cases h⟩
def na{α:Type}(c:jm α):Arg (Int×List α):=⟨λx=>.e (.agg [.c (.int .i64 x.1),.c (.sl false c.k x.2.length (c.fn x.2))]),λd=>match d with
 |.e (.agg [.c (.int .i64 a),.c b])=>match jL c.k (.e (.one (.c b))) with|some (n,es)=>some ((a,c.list n es),[c.fits n es])|none=>none
 |_=>none,λ{d a o} h l _ s _ r=>by
 split at h
 ·split at h
  ·rename_i n es he
   cases h;obtain⟨vs,p,g⟩:=r
   match vs,g with
   |[],g=>exact g.elim
   |[_],g=>exact g.2.elim
   |_::_::_::_,g=>exact g.2.2.elim
   |[q,m],g=>exact⟨_,p,g.1,c.jf (σ:=[]) (s:=s) (v:=m) he l g.2.1,ab⟩
  ·cases h
 ·cases h⟩
def fY{α:Type}(A:Arg α)(res:α->D)(pre:α->List Prop):bH:=λargs σ=>match args,σ with
 |[d],[]=>match A.arg d with
  |some (a,o)=>some (res a,[],iZ o (pre a))
  |none=>none
 |_,_=>none
def ga{α i:Type}(A:Arg α)(B:Arg i)(res:α->i->D)(pre:α->i->List Prop):bH:=λargs σ=>match args,σ with
 |[d,e],[]=>match A.arg d with
  |some (a,o)=>match B.arg e with
   |some (b,p)=>some (res a b,[],iZ o (iZ p (pre a b)))
   |none=>none
  |none=>none
 |_,_=>none
def CY{α i j:Type}(A:Arg α)(B:Arg i)(C:Arg j)(res:α->i->j->D)(pre:α->i->j->List Prop):bH:=λargs σ=>match args,σ with
 |[d,e,f],[]=>match A.arg d with
  |some (a,o)=>match B.arg e with
   |some (b,p)=>match C.arg f with
    |some (c,q)=>some (res a b c,[],iZ o (iZ p (iZ q (pre a b c))))
    |none=>none
   |none=>none
  |none=>none
 |_,_=>none
section
variable {P:Program}{X:Cx P}{f:FuncId}{α i j:Type}{A:Arg α}{B:Arg i}{C:Arg j}
theorem bU.jo{res:α->D}{pre:α->List Prop}(h:∀ a,aa (pre a)->Ev X f [A.enc a] [] (res a) []):bU X f (fY A res pre):=by
 intro args σ r σ' obs h1 ho;unfold fY at h1;split at h1
 ·split at h1
  ·rename_i d a o b
   cases h1;rw[aa.cat] at ho;exact(h a ho.2).args λs vs=>bZ.imp (λ_ r=>A.ok b ho.1 r) (λ_ r=>r) vs
  ·cases h1
 ·cases h1
theorem bU.gX{res:α->i->D}{pre:α->i->List Prop}(h:∀ a b,aa (pre a b)->Ev X f [A.enc a,B.enc b] [] (res a b) []):bU X f (ga A B res pre):=by
 intro args σ r σ' obs h1 ho;unfold ga at h1;split at h1
 ·split at h1
  ·rename_i d e a o c
   split at h1
   ·rename_i b p g
    cases h1;rw[aa.cat,aa.cat] at ho;exact(h a b ho.2.2).args λs vs=>bZ.imp (λ_ r=>A.ok c ho.1 r) (bZ.imp (λ_ r=>B.ok g ho.2.1 r) (λ_ r=>r)) vs
   ·cases h1
  ·cases h1
 ·cases h1
theorem bU.Je{res:α->i->j->D}{pre:α->i->j->List Prop}(h:∀ a b c,aa (pre a b c)->Ev X f [A.enc a,B.enc b,C.enc c] [] (res a b c) []):bU X f (CY A B C res pre):=by
 intro args σ r σ' obs h1 ho;unfold CY at h1;split at h1
 ·split at h1
  ·rename_i d e g a o k
   split at h1
   ·rename_i b p m
    split at h1
    ·rename_i c q l
     cases h1;rw[aa.cat,aa.cat,aa.cat] at ho;exact(h a b c ho.2.2.2).args λs vs=>bZ.imp (λ_ r=>A.ok k ho.1 r) (bZ.imp (λ_ r=>B.ok m ho.2.1 r) (bZ.imp (λ_ r=>C.ok l ho.2.2.1 r) (λ_ r=>r))) vs
    ·cases h1
   ·cases h1
  ·cases h1
 ·cases h1
end
def tj(M:Mem):List Value->List C->Prop
 |[],[]=>True
 |v::vs,c::cs=>Rd M v c/\tj M vs cs
 |_,_=>False
structure FA (α:Type) where
 enc:α->List C
 dec:List C->Option (α×List Prop×List C)
 ok:∀ {cs a o r},dec cs=some (a,o,r)->aa o->∀ {M:Mem} {vs:List Value},tj M vs cs->∃ v1 v2,vs=v1++v2/\tj M v1 (enc a)/\tj M v2 r
theorem tj.app{M:Mem}:∀ {v1 v2:List Value}{c1 c2:List C},tj M v1 c1->tj M v2 c2->tj M (v1++v2) (c1++c2)
 |[],_,[],_,_,h=>h
 |_::_,_,_::_,_,h1,h2=>⟨h1.1,h1.2.app h2⟩
 |[],_,_::_,_,h,_=>h.elim
 |_::_,_,[],_,h,_=>h.elim
theorem tj.one{M:Mem}{vs:List Value}{c:C}{r:List C}(h:tj M vs (c::r)):∃ v a,vs=v::a/\Rd M v c/\tj M a r:=by
 cases vs with
 |nil=>exact h.elim
 |cons v vs=>exact⟨v,vs,rfl,h⟩
def fI:FA Int:=⟨λn=>[.int .i64 n],λcs=>match cs with|.int .i64 n::r=>some (n,[],r)|_=>none,λ{cs a o r} h _ M vs hr=>by
 split at h
 ·cases h;obtain⟨v,b,rfl,d,c⟩:=hr.one;exact⟨[v],b,rfl,⟨d,ab⟩,c⟩
 ·cases h⟩
def fS:FA Bs:=⟨λn=>[.str n],λcs=>match cs with|.str n::r=>some (n,[],r)|_=>none,λ{cs a o r} h _ M vs hr=>by
 split at h
 ·cases h;obtain⟨v,b,rfl,d,c⟩:=hr.one;exact⟨[v],b,rfl,⟨d,ab⟩,c⟩
 ·cases h⟩
def fL{α:Type}(c:jm α):FA (List α):=⟨λl=>[.sl false c.k l.length (c.fn l)],λcs=>match cs with
 |d::r=>match jL c.k (.e (.one (.c d))) with|some (n,es)=>some (c.list n es,[c.fits n es],r)|none=>none
 |_=>none,λ{cs a o r} h f M vs hr=>by
 split at h
 ·split at h
  ·rename_i n es he
   cases h;obtain⟨v,b,rfl,i,g⟩:=hr.one;exact⟨[v],b,rfl,⟨c.jf (σ:=[]) (s:=⟨[],M,default,λ_=>True⟩) (v:=v) he f i,ab⟩,g⟩
  ·cases h
 ·cases h⟩
def fP{α d:Type}(A:FA α)(B:FA d):FA (α×d):=⟨λx=>A.enc x.1++B.enc x.2,λcs=>match A.dec cs with
 |some (a,o,r)=>match B.dec r with|some (b,p,q)=>some ((a,b),iZ o p,q)|none=>none
 |none=>none,λ{cs a o r} h c M vs hr=>by
 split at h
 ·rename_i j
  split at h
  ·rename_i i
   cases h;rw[aa.cat] at c;obtain⟨v1,k,rfl,f,e⟩:=A.ok j c.1 hr;obtain⟨g,v4,rfl,g3,g4⟩:=B.ok i c.2 e;exact⟨v1++g,v4,(c9 _ _ _).symm,f.app g3,g4⟩
  ·cases h
 ·cases h⟩
def OQ:List A->Option (List C)
 |[]=>some []
 |.c x::r=>match OQ r with|some q=>some (x::q)|none=>none
 |_=>none
def OR:List C->List A
 |[]=>[]
 |x::r=>.c x::OR r
theorem EP{σ:List ak}{s:St}:∀ {cs:List A}{q:List C}{vs:List Value},OQ cs=some q->cu σ s vs cs->tj s.M vs q
 |[],q,vs,h,a=>by cases h;cases vs with|nil=>trivial|cons=>exact a.elim
 |.c x::r,q,vs,h,a=>by
  simp only[OQ] at h;split at h
  ·rename_i b
   cases h;cases vs with
   |nil=>exact a.elim
   |cons v vs=>exact⟨a.1,EP b a.2⟩
  ·cases h
 |.ptr ..::_,_,_,h,_=>by cases h
 |.vec ..::_,_,_,h,_=>by cases h
 |.ref ..::_,_,_,h,_=>by cases h
 |.bp ..::_,_,_,h,_=>by cases h
 |.any::_,_,_,h,_=>by cases h
theorem yX{σ:List ak}{s:St}:∀ {q:List C}{vs:List Value},tj s.M vs q->cu σ s vs (OR q)
 |[],[],_=>trivial
 |_::_,_::_,h=>⟨h.1,yX h.2⟩
 |[],_::_,h=>h.elim
 |_::_,[],h=>h.elim
def ln{α:Type}(F:FA α):Arg α:=⟨λa=>.e (.agg (OR (F.enc a))),λd=>match d with
 |.e (.agg xs)=>match OQ xs with
  |some cs=>match F.dec cs with|some (a,o,[])=>some (a,o)|_=>none
  |none=>none
 |_=>none,λ{d a o} h b σ s v r=>by
 split at h
 ·split at h
  ·rename_i k
   split at h
   ·rename_i j
    cases h;obtain⟨vs,rfl,f⟩:=r;obtain⟨v1,i,rfl,g,c⟩:=F.ok j b (EP k f);cases i with
    |nil=>exact⟨v1,by rw[gH],yX g⟩
    |cons=>exact c.elim
   ·cases h
  ·cases h
 ·cases h⟩
end Go.AM
namespace Go.AM
open Go.Conc (G)
section drop
variable {σ1 rest:List ak}{s:St}
def M1(n:Nat):ak->Bool
 |.cells _ cs=>Bc n cs
 |.loop ..=>false
 |_=>true
def uS(n:Nat):List ak->Bool
 |[]=>true
 |a::r=>match M1 n a with|true=>uS n r|false=>false
theorem wq{n:Nat}:∀ {l:List ak},uS n l=true->∀ B∈l,M1 n B=true
 |[],_,B,a=>by simp at a
 |b::r,h,B,a=>by
  simp only[uS] at h;cases d:M1 n b with
  |false=>simp[d] at h
  |true =>
   simp only[d] at h;rcases dy.1 a with rfl|a
   ·exact d
   ·exact wq h B a
theorem dq.oY{B:ak}{L:Loc}(a:M1 σ1.length B=true)(h:dq (σ1++rest) s B L):dq σ1 (s.cut σ1.length) B L:=by
 cases B with
 |cells E cs =>
  obtain⟨b,vs,h1,h2,e,d⟩:=h;exact⟨b,vs,h1,h2,cu.se e a,d⟩
 |vec E k n es=>exact h
 |cQ H=>exact h
 |dead=>trivial
 |loop N φ r=>simp[M1] at a
 |oc=>exact h
 |buf E k n es=>exact h
theorem ag.drop(h:ag (σ1++rest) s)(j:uS σ1.length σ1=true):ag σ1 (s.cut σ1.length):=by
 have hl:σ1.length<=s.β.length:=by rw[h.len];simp
 refine⟨h.mem,by simp[St.cut,hl],?_,?_,?_,λb e=>⟨(h.own b e).1,λL a=>(h.own b e).2 L (jU a)⟩⟩
 ·intro l B L g a;have f:l<σ1.length:=(aE.1 g).1;simp only[St.cut,dx,f,aV] at a;exact dq.oY (rest:=rest) (wq j B (aG g)) (h.box l B L (by rw[bS f];exact g) a)
 ·intro l l' L L' a d b e i;simp only[St.cut,dx] at a d;split at a <;> split at d <;> first|exact h.eE l l' L L' a d b e i|(cases a;done)|(cases d;done)
 ·intro L a b e;exact h.lt L (jU a) b e
theorem j0.drop(a:kp rest=true):∀ {ds:List Deferred}{b:List Nat},j0 (σ1++rest) s ds b->j0 σ1 (s.cut σ1.length) ds b
 |[],[],_=>trivial
 |[],_::_,r=>r.elim
 |_::_,[],r=>r.elim
 |d::ds,l::b,⟨⟨h1,L,r,h2,f⟩,e,g⟩=>by
  have hl:l<σ1.length:=by
   rcases bC l σ1.length with h|h
   ·exact h
   ·rw[cj h] at h1;exact absurd rfl (kq a _ (aG h1))
  rw[bS hl] at h1;exact⟨⟨h1,L,r,by simp only[St.cut,dx,hl,aV];exact h2,f⟩,e,j0.drop a g⟩
def yw(n:Nat)(σ:List ak):Bool:=match Nat.ble n σ.length with|true=>kp (σ.drop n)|false=>false
theorem sT{n:Nat}{σ:List ak}(h:yw n σ=true):Nat.ble n σ.length=true/\kp (σ.drop n)=true:=by
 unfold yw at h;split at h
 ·rename_i a;exact⟨a,h⟩
 ·cases h
end drop
def DV(n:Nat):Fr->Bool
 |[]=>true
 |(_,d)::r=>match ux n d with|true=>DV n r|false=>false
theorem mm{n:Nat}:∀ {φ:Fr}{t:Nat},DV n φ=true->ux n (look φ t)=true
 |[],t,_=>rfl
 |(u,d)::r,t,h=>by
  simp only[DV] at h;cases a:ux n d with
  |false=>simp[a] at h
  |true =>
   simp only[a] at h;simp only[look];cases Nat.beq u t with
   |true=>exact a
   |false=>exact mm h
section
variable {P:Program}{X:Cx P}{N:Nat}{Qf:Post}{K:List It}{φ:Fr}{σ:List ak}{c:Code}
def j2{S:Type}{P:Program}(X:Cx P)(N:Nat)(Qf:Post)(K:List It)(I:S->Prop)(b:S->Fr)(st:S->List ak)(a:S->Nat)(n:Nat)(x:S):Post:=λe φ' σ'=>match e with
 |.normal=>∃ y,I y/\a y<a x/\nT φ' (b y)/\DV n (b y)=true/\∃ σ1 rest,σ'=σ1++rest/\σ1.length=n/\(uS n σ1=true/\kp rest=true)/\Bu σ1 (st y)
 |e=>AK X N Qf K e φ' σ'
theorem AK.bY{S:Type}(n:Nat)(I:S->Prop)(fr:S->Fr)(st:S->List ak)(w:S->Nat)(x:S){ps qs:List Prop}(G:nS φ (fr x)=some ps)(V:aa ps)(C:py σ (st x)=some qs)(O:aa qs)(hn:σ.length=n)(Q:I x)
  (round:∀ x,I x->AK X N (j2 X N Qf K I fr st w n x) [.code c] .normal (fr x) (st x)):AK X N Qf (.code (.loop c)::K) .normal φ σ:=by
 intro s a Z hh b kk cs SS hb hQ;have k:=jI C O;obtain⟨r,v,_⟩:=k s hh;refine qR (λm a' s'=>∃ y,I y/\bg N (st y) s' (fr y) a'/\ag (st y) s'/\bq σ s (st y) s'/\w y=m) ?_ ?_ ⟨x,Q,(Z.le (cm G V)).bs k hh,r,v.mG hh,rfl⟩
 ·rintro n a' s' ⟨y,E,l,f,d,e⟩;exact⟨st y,f,λs1 h1=>⟨y,E,l.rely h1 f,f.rely h1,d.trans h1.stepW,e⟩⟩
 rintro m a' s' ⟨y,E,l,f,d,rfl⟩ Y;refine round y E s' a' l f b (.inLoop c::kk) cs SS hb ?_;intro e U σ2 s2 a2 q M h2 nA;cases e with
 |normal =>
  obtain⟨z,T,o,g,p,σ1,rest,rfl,i,⟨B,D⟩,F⟩:=q;have J:=h2.drop (by rw[i];exact B)
  obtain⟨u,j,H⟩:=F _ J;have A:=M.le g;have R:er s2 (s2.cut σ1.length):=⟨rfl,λ_ _ _ h=>h,λ_ _ _=>rfl,h2.mem,λb hb=>hb.imp id λ⟨L,W,hb⟩=>⟨L,jU W,hb⟩⟩
  refine .ghost R (Y a2 (s2.cut σ1.length) (w z) o ⟨z,T,⟨A.size,A.defers.imp λ_ h1=>(h1.drop D).mono j.ext,λt=>H _ _ ((A.slot t).drop (mm (by rw[i];exact p)))⟩,u,?_,rfl⟩)
  exact((d.trans nA).drop (by omega)).trans (j.mG J)
 |_=>exact ends.cons (λ_ _=>rfl) (by simp) (hQ _ _ _ _ _ q M h2 (d.trans nA))
theorem AK.aA{S:Type}{n:Nat}{I:S->Prop}{fr:S->Fr}{st:S->List ak}{d:S->Nat}{x:S}{j:List It}(y:S){ps qs:List Prop}(g:nS φ (fr y)=some ps)(i:aa ps)(b:DV n (fr y)=true)(a:yw n σ=true)(f:py (σ.take n) (st y)=some qs)(l:aa qs)(e:uS n (σ.take n)=true)(k:I y)(h:d y<d x) :
  AK X N (j2 X N Qf j I fr st d n x) [] .normal φ σ :=
 ⟨y,k,h,cm g i,b,σ.take n,σ.drop n,(jT n σ).symm,by simp[cY (sT a).1],⟨e,(sT a).2⟩,jI f l⟩
theorem AK.leaveD{S:Type}{n:Nat}{I:S->Prop}{fr:S->Fr}{st:S->List ak}{b:S->Nat}{x:S}{id:Nat}{d a f:List It}(h1:hY id d=none)(h2:hY id a=some f)(k:AK X N Qf f .normal φ σ) :
  AK X N (j2 X N Qf a I fr st b n x) (.code (.exit id)::d) .normal φ σ :=
 AW.mono (AK.leave (A:=λφ' σ'=>j2 X N Qf a I fr st b n x .normal φ' σ') h1 h2 k) λe φ' σ' q=>by
  have key:∀ (K:List It) e,AK X N (λe φ' σ'=>match e with
    |.normal=>j2 X N Qf a I fr st b n x .normal φ' σ'
    |e=>AK X N Qf a e φ' σ') K e φ' σ'->AK X N (j2 X N Qf a I fr st b n x) K e φ' σ':=by
   have e:(λe φ' σ'=>match e with
    |.normal=>j2 X N Qf a I fr st b n x .normal φ' σ'
    |e=>AK X N Qf a e φ' σ')=j2 X N Qf a I fr st b n x:=by
    funext e φ' σ';cases e <;> rfl
   intro K g h;rw[e] at h;exact h
  exact key _ _ q
theorem AK.cV{S:Type}{n:Nat}{I:S->Prop}{fr:S->Fr}{st:S->List ak}{b:S->Nat}{x:S}{a d:List It}(k:Qf .ret φ σ):AK X N (j2 X N Qf d I fr st b n x) (.code .ret::a) .normal φ σ :=
 AK.ret (AK.nR (Qf:=Qf) k)
theorem bg.freeze(t l:Nat){E:TypeId}{cs:List A}{cc:List C}(F:look φ t=.e (.one (.ptr l 0)))(hl:en l σ=some (.cells E cs))(I:eJ cs=some cc)
  {s:St} {a:Act} (n:bg N σ s φ a) (hh:ag σ s):∃ s':St,s'.w=s.w/\bg N (σ.set l .dead) s' ((t,.e (.one (.c (.rp cc))))::φ) a/\ag (σ.set l .dead) s'/\Step σ s (σ.set l .dead) s':=by
 have p:=cT hl;have m:l<σ.length:=(aE.1 p).1;have y:=n.slot t;rw[F] at y;obtain⟨_,L,b,r,k,H⟩:=y;obtain⟨f,vs,h1,h2,G,O⟩:=hh.box l _ L p r;subst h1;simp at k;subst k
 let s':St:={ s with M:=λz o=>if z=f then vs[o]? else s.M z o }
 have st:Step σ s (σ.set l .dead) s':=by
  refine⟨ar _,λ_ _ _=>rfl,?_,?_,λL h b i=>.inr ⟨L,h,i⟩,?_,rfl,rfl,rfl,rfl⟩
  ·intro b o v g;have d:b≠f:=λe=>by subst e;rw[O] at g;cases g
   show (if b=f then _ else _)=_
   rw[an d];exact g
  ·intro b i J o;have d:b≠f:=λe=>J _ (aG r) (by simp[e])
   show (if b=f then _ else _)=_
   rw[an d]
  ·intro l' B L' ir eY
   by_cases e:l=l'
   ·subst e;rw[p] at ir;cases ir;exact⟨.dead,L',by rw[br m],eY,rfl⟩
   ·exact⟨B,L',by rw[b7 e];exact ir,eY,.refl _ _⟩
 refine⟨s',rfl,⟨n.size,n.defers.imp λ_ h1=>h1.mono st.ext,λu=>?_⟩,⟨?_,by simp[hh.len,s'],?_,hh.eE,hh.lt,hh.own⟩,st⟩
 ·simp only[look];cases i:Nat.beq t u with
  |false=>exact(n.slot u).mono st.ext hh.len
  |true =>
   have e:=bk i;subst e;rw[H];have D:=iK I G;refine Rd.rp f 0 (λj=>(vs[j]?).getD undef) ?_ ?_
   ·intro j c hj;obtain⟨v,x,_⟩:=D.get (j:=j) (a:=.c c) (by simp[hj])
    show (if f=f then _ else _)=_
    simp[x]
   ·intro j c hj;obtain⟨v,x,p2⟩:=D.get (j:=j) (a:=.c c) (by simp[hj])
    simp only[x,cp];exact Rd.mono st.mem p2
 ·intro b o v g
  by_cases e:b=f
  ·subst e;have hm':vs[o]?=some v:=by simpa[s'] using g
   show s.w.cell? _=_;simp[World.cell?,h2,hm']
  ·exact hh.mem b o v (by simpa[s',e] using g)
 ·intro l' B L' ir eY
  by_cases e:l=l'
  ·subst e;rw[br m] at ir;cases ir;trivial
  ·rw[b7 e] at ir;refine(hh.box l' B L' ir eY).carry st.ext hh.len λb i=>⟨rfl,λo=>?_⟩
   have d:b≠f:=λq=>e (hh.eE l l' _ L' r eY b (by simp[q]) i)
   show (if b=f then _ else _)=_
   rw[an d]
theorem AK.freeze(t l:Nat){E:TypeId}{cs:List A}{cc:List C}(b:look φ t=.e (.one (.ptr l 0)))(hl:en l σ=some (.cells E cs))(d:eJ cs=some cc)
  (kk:AK X N Qf (.code c::K) .normal ((t,.e (.one (.c (.rp cc))))::φ) (cU.po l .dead σ)):AK X N Qf (.code c::K) .normal φ σ:=by
 rw[jD] at kk;exact AK.ghost (λs a f hh=>bg.freeze t l b hl d f hh) kk
theorem AK.one{all rest:List Oper}{o:Oper}{x:D}{σ':List ak}(h:OA X N all o φ σ x σ')(a:iu N o.dst=true)(k:AK X N Qf (.ops all rest::K) .normal (mX o.dst x φ) σ'):AK X N Qf (.ops all (o::rest)::K) .normal φ σ :=
 gA.uT h (hO a) k
end
end Go.AM
namespace Go.AM
structure yy (d:TypeDesc)(es:Array MapEntry)(k:Value)(a:Option (Nat×Value)):Prop where
 key:MapKept.IsKey d k
 now:Instr.findNow d k es.toList 0=some a
 no:a=none->∀ e∈es.toList,e.key≠k
 yes:∀ j v,a=some (j,v)->∃ e,es[j]?=some e/\e.key=k/\e.val=v
theorem sV{d:TypeDesc}{es:Array MapEntry}{k:Value}(l:MapKept.IsKey d k)(h:∀ e∈es.toList,MapKept.IsKey d e.key):∃ a,yy d es k a:=by
 rcases MapKept.findNow_spec l es.toList 0 h with⟨i,g⟩|⟨j,e,i,g,m⟩
 ·exact⟨none,l,i,λ_=>g,by simp⟩
 ·refine⟨_,l,i,by simp,λn v b=>?_⟩
  cases b;exact⟨e,by simpa using g,m,rfl⟩
section
variable {P:Program}{w:World}{t c f:TypeId}{d:TypeDesc}{r:Nat}{es:Array MapEntry}{clock:Nat}{k:Value}{ok:Bool}
theorem Am(a:P.underlying c=some d):(underlying c).run P w=.ok d w:=by simp[underlying,a]
theorem jJ(e:P.underlying c=some d)(a:MapKept.IsKey d k)(b:Bool)(evs:Array Event):(Instr.checkKey b 10000 c k).events P w evs=evs:=by
 show (Instr.checkKey b (9999+1) c k).events P w evs=evs;unfold Instr.checkKey;simp only[Sem.events_bind,Am e,Result.evThen_ok,events_underlying];cases d <;> cases k <;> first|exact a.elim|simp
theorem k8{l:List MapEntry}{a:Option (Nat×Value)}(b:P.underlying c=some d)(h:Instr.findNow d k l 0=some a)(evs:Array Event):(Instr.findKey c k l).events P w evs=evs:=by
 simp[Instr.findKey,Am b,h]
theorem gV(a:w.heap[r]?=some (.map es clock))(evs:Array Event):(getObj r).events P w evs=evs.push ⟨.obj r,false,false⟩:=by
 simp only[getObj,Sem.events,Sem.runT,a];rfl
theorem mJ(b:w.heap[r]?=some (.map es clock)){es':Array MapEntry}{a:Nat}(evs:Array Event):(setObj r (.map es' a)).events P w evs=evs.push ⟨.obj r,true,false⟩:=by
 simp only[setObj,Sem.events,Sem.runT,b];rfl
theorem mK(e:P.underlying c=some d)(a:MapKept.IsKey d k)(b:Bool):(Instr.checkKey b 10000 c k).run P w=.ok () w:=MapKept.run_checkKey e a b 9999
theorem oZ(m:P.underlying t=some (.map c f))(h:P.underlying c=some d)(e:w.heap[r]?=some (.map es clock)){a:Option (Nat×Value)}(g:yy d es k a){z:Value}(l:a=none->(zeroValue f).run P w=.ok z w) :
  (Instr.lookup t (.map (some r)) k ok).run P w=.ok (match a with
   |some (_,v)=>if ok=true then .tuple #[v,.bool true] else v
   |none=>if ok=true then .tuple #[z,.bool false] else z) w/\(Instr.lookup t (.map (some r)) k ok).events P w #[]=#[⟨.obj r,false,false⟩]:=by
 have j:(underlying t).run P w=.ok (.map c f) w:=by simp[underlying,m]
 have i:=mK (w:=w) h g.key es.isEmpty;have b:(Instr.findKey c k es.toList).run P w=.ok a w:=MapKept.run_findKey h g.now;cases a with
 |some jv =>
  constructor
  ·simp only[Instr.lookup,aU,j,bj,MapKept.run_getObj_map e,cd,i,b]
  ·simp only[Instr.lookup,Sem.events_bind,j,Result.evThen_ok,MapKept.run_getObj_map e,cd,Sem.events_pure,i,b,events_underlying,gV e,jJ h g.key,k8 h g.now];rfl
 |none =>
  constructor
  ·simp only[Instr.lookup,aU,j,bj,MapKept.run_getObj_map e,cd,i,b,l rfl]
  ·simp only[Instr.lookup,Sem.events_bind,j,Result.evThen_ok,MapKept.run_getObj_map e,cd,Sem.events_pure,i,b,events_underlying,gV e,jJ h g.key,k8 h g.now,l rfl,events_zeroValue];rfl
theorem o0(s:P.underlying t=some (.map c f))(i:P.underlying c=some d)(b:w.heap[r]?=some (.map es clock)){a:Option (Nat×Value)}{x:Value}(g:yy d es k a) :
  (Instr.mapUpdate t (.map (some r)) k x).run P w=.ok () { w with heap:=w.heap.setIfInBounds r (match a with
   |some (j,_)=>.map (es.modify j λe=>{ key:=k,val:=x,born:=e.born }) clock
   |none=>.map (es.push { key:=k,val:=x,born:=clock }) (clock+1)) } /\
  (Instr.mapUpdate t (.map (some r)) k x).events P w #[]=#[⟨.obj r,false,false⟩,⟨.obj r,true,false⟩]:=by
 have p:(underlying t).run P w=.ok (.map c f) w:=by simp[underlying,s]
 have o:=mK (w:=w) i g.key false;have h:(Instr.findKey c k es.toList).run P w=.ok a w:=MapKept.run_findKey i g.now;cases a with
 |some jv =>
  obtain⟨j,v⟩:=jv;obtain⟨e,m,n,_⟩:=g.yes j v rfl;have l:(Instr.keyThatStays k k).run P w=.ok k w:=MapKept.run_keyThatStays g.key;have q:∀ evs,(Instr.keyThatStays k k).events P w evs=evs:=λevs=>by simp[Instr.keyThatStays,MapKept.sameBits_self g.key]
  constructor
  ·simp only[Instr.mapUpdate,aU,p,bj,MapKept.run_getObj_map b,o,h,m,gG,cp,n,l,MapKept.run_setObj_map _ b]
  ·simp only[Instr.mapUpdate,Sem.events_bind,p,Result.evThen_ok,MapKept.run_getObj_map b,o,h,m,gG,cp,n,l,q,events_underlying,gV b,mJ b,jJ i g.key,k8 i g.now];rfl
 |none =>
  constructor
  ·simp only[Instr.mapUpdate,aU,p,bj,MapKept.run_getObj_map b,o,h,MapKept.run_setObj_map _ b]
  ·simp only[Instr.mapUpdate,Sem.events_bind,p,Result.evThen_ok,MapKept.run_getObj_map b,o,h,events_underlying,gV b,mJ b,jJ i g.key,k8 i g.now];rfl
end
theorem ag.jq{σ:List ak}{s:St}(h:ag σ s){l:Nat}{H H':Value->(Nat->Option Obj)->Prop}{L L':Loc}(C:σ[l]?=some (.cQ H))(q:s.β[l]?=some L){w':World}(J:L'.v=L.v)
  (m:s.w.heap.size<=w'.heap.size) (F:∀ b,b<s.w.heap.size->b∉L.bs->w'.heap[b]?=s.w.heap[b]?) (i:∀ b∈L'.bs,b∈L.bs∨(s.w.heap.size<=b/\b<w'.heap.size))
  (D:∃ ch,H' L'.v ch/\(∀ (b:Nat) (o:Obj),ch b=some o->w'.heap[b]?=some o)/\(∀ b,b∈L'.bs↔(ch b).isSome=true)) (S:w'.os=s.w.os) (I:w'.tape=s.w.tape) (O:w'.output=s.w.output) :
  ag (σ.set l (.cQ H')) ⟨s.β.set l L',s.M,w',s.own⟩/\Step σ s (σ.set l (.cQ H')) ⟨s.β.set l L',s.M,w',s.own⟩:=by
 have r:l<σ.length:=(aE.1 C).1;have k:l<s.β.length:=by rw[h.len];exact r
 obtain⟨Q,_,_,_,z⟩:=h.box l _ L C q;have t:∀ b∈L'.bs,∀ o,s.M b o=none:=by
  intro b p o;rcases i b p with h1|⟨h1,_⟩
  ·exact z b h1 o
  ·cases y:s.M b o with
   |none=>rfl
   |some v=>have:=h.block y;omega
 have st:Step σ s (σ.set l (.cQ H')) ⟨s.β.set l L',s.M,w',s.own⟩:=by
  refine⟨m,?_,λ_ _ _ h=>h,λ_ _ _ _=>rfl,?_,?_,S,I,O,rfl⟩
  ·intro b g R;exact F b g (R L (aG q))
  ·intro d c b a;rcases qm c with h1|h1
   ·exact .inr ⟨d,h1,a⟩
   ·subst h1;rcases i b a with h2|h2
    ·exact .inr ⟨L,aG q,h2⟩
    ·exact .inl h2.1
  ·intro l' B d f c
   by_cases e:l=l'
   ·subst e;rw[C] at f;cases f;rw[q] at c;cases c;exact⟨.cQ H',L',by rw[br r],by show (s.β.set l L')[l]?=_;rw[br k],J⟩
   ·exact⟨B,d,by rw[b7 e];exact f,by show (s.β.set l L')[l']?=_;rw[b7 e];exact c,.refl _ _⟩
 have j:∀ (l':Nat) (d:Loc),(s.β.set l L')[l']?=some d->(l'=l/\d=L')∨(l≠l'/\s.β[l']?=some d):=by
  intro l' d h2
  by_cases e:l=l'
  ·subst e;rw[br k] at h2;cases h2;exact .inl ⟨rfl,rfl⟩
  ·rw[b7 e] at h2;exact .inr ⟨e,h2⟩
 refine⟨⟨?_,by simp[h.len],?_,?_,?_,?_⟩,st⟩
 ·intro b o v y;have A:=h.block y;have E:b∉L.bs:=λn=>by rw[z b n o] at y;cases y
  rw[<-h.mem b o v y];simp only[World.cell?];rw[F b A E]
 ·intro l' B d f c;rcases j l' d c with⟨rfl,rfl⟩|⟨e,h2⟩
  ·rw[br r] at f;cases f;obtain⟨ch,k1,U,N⟩:=D;exact⟨ch,k1,U,N,t⟩
  ·rw[b7 e] at f;refine(h.box l' B d f h2).carry st.ext h.len λb p=>⟨F b (h.lt d (aG h2) b p) λn=>e (h.eE l l' L d q h2 b n p),λ_=>rfl⟩
 ·intro K T L1 d h1 h2 b g a;rcases j K L1 h1 with⟨rfl,rfl⟩|⟨e1,x⟩ <;> rcases j T d h2 with⟨rfl,rfl⟩|⟨e2,u⟩
  ·rfl
  ·rcases i b g with n|n
   ·exact h.eE _ _ L d q u b n a
   ·have:=h.lt d (aG u) b a;omega
  ·rcases i b a with n|n
   ·exact h.eE _ _ L1 L x q b g n
   ·have:=h.lt L1 (aG x) b g;omega
  ·exact h.eE _ _ L1 d x u b g a
 ·intro d c b a;rcases qm c with h1|h1
  ·exact bm (h.lt d h1 b a) m
  ·subst h1;rcases i b a with h2|h2
   ·exact bm (h.lt L (aG q) b h2) m
   ·exact h2.2
 ·intro b D;obtain⟨P,G⟩:=h.own b D;refine⟨bm P m,λd c a=>?_⟩
  rcases qm c with h1|h1
  ·exact G d h1 a
  ·subst h1;rcases i b a with h2|h2
   ·exact G L (aG q) h2
   ·omega
section
variable {H H':Value->(Nat->Option Obj)->Prop}{s:St}
theorem D5{l:Nat}:∀ B,([ak.cQ H]:List ak)[l]?=some B->B.gr=false:=by
 cases l with
 |zero=>simp[ak.gr]
 |succ l=>simp
theorem Bx{l:Nat}{E:TypeId}{k n:Nat}{es:Nat->List C}:([ak.cQ H]:List ak)[l]?≠some (.buf E k n es):=by
 cases l with
 |zero=>simp
 |succ l=>simp
theorem By{l:Nat}{E:TypeId}{k n:Nat}{es:Nat->List C}:([ak.cQ H]:List ak)[l]?≠some (.vec E k n es):=by
 cases l with
 |zero=>simp
 |succ l=>simp
theorem eQ.cQ{v:Value}{a:A}(r:eQ [.cQ H] s v a):eQ [.cQ H'] s v a:=by
 cases a with
 |c x=>exact r
 |any=>exact r
 |ptr l o=>exact⟨D5,r.2⟩
 |ref l=>exact⟨D5,r.2⟩
 |bp l w=>obtain⟨lv,e,d,_⟩:=r;exact⟨lv,e,d,λ_ _ _ _ b=>absurd b Bx⟩
 |vec l k n es=>exact⟨r.1,r.2.1,λ_ _ _ _ b=>absurd b By⟩
theorem cu.cQ:∀ {vs:List Value}{cs:List A},cu [.cQ H] s vs cs->cu [.cQ H'] s vs cs
 |[],[],_=>trivial
 |[],_::_,r=>r.elim
 |_::_,[],r=>r.elim
 |_::_,_::_,r=>⟨r.1.cQ,cu.cQ r.2⟩
theorem jr.cQ{v:Value}{e:E1}(r:jr [.cQ H] s v e):jr [.cQ H'] s v e:=by
 cases e with
 |one a=>exact eQ.cQ r
 |agg cs=>obtain⟨vs,h1,h2⟩:=r;exact⟨vs,h1,cu.cQ h2⟩
theorem dX.cQ:∀ {vs:List Value}{cs:List E1},dX [.cQ H] s vs cs->dX [.cQ H'] s vs cs
 |[],[],_=>trivial
 |[],_::_,r=>r.elim
 |_::_,[],r=>r.elim
 |_::_,_::_,r=>⟨jr.cQ r.1,dX.cQ r.2⟩
theorem b5.cQ{v:Value}{d:D}(r:b5 [.cQ H] s v d):b5 [.cQ H'] s v d:=by
 cases d with
 |e x=>exact jr.cQ r
 |eD xs=>obtain⟨vs,h1,h2⟩:=r;exact⟨vs,h1,dX.cQ h2⟩
 |any=>trivial
theorem j0.cQ{ds:List Deferred}{a:List Nat}(h:j0 [.cQ H] s ds a):j0 [.cQ H'] s ds a:=by
 cases a with
 |nil=>cases ds with|nil=>trivial|cons d ds=>exact h.elim
 |cons l a =>
  have:=h.sS l (by simp)
  cases l <;> simp at this
theorem bg.cQ{N:Nat}{φ:Fr}{a:Act}(f:bg N [.cQ H] s φ a):bg N [.cQ H'] s φ a:=⟨f.size,f.defers.imp λ_ h1=>h1.cQ,λt=>(f.slot t).cQ⟩
end
theorem aW.oz{fn:Func}{c:Nat}{res:D}{σ':List ak}{φ:Fr}{σ:List ak}(ks:List Nat){ps:List Prop}(h:uC fn.results.toList ks φ res=some ps)(e:aa ps)(f:iW ks σ=some σ')(b:jZ σ'=true)(k:dk ks=true)(i:∀ j,j<c->ks[j]?=some j) :
  aW fn c res σ' .normal φ σ:=by
 refine⟨.inr rfl,ks,?_⟩;unfold uC at h;split at h
 ·rename_i ds Di
  split at h
  ·rename_i d g
   split at h
   ·rename_i a
    exact⟨ds,d,ps,Di,g,h,e,a,f,b,k,i⟩
   ·cases h
  ·cases h
 ·cases h
theorem AK.aP{P:Program}{X:Cx P}{N:Nat}{Qf:Post}{K:List It}{φ:Fr}{σ:List ak}{all rest:List Oper}{o:Oper}{m:Operand}{xs:Array Operand}{i:Array TypeId}{f:FuncId}{cap:List C}{a:List D}{c σ1:List ak}{res:D}(j:Ev X f a c res σ1)(ks:List Nat)
  (g:o.guard=none) (n:o.op=.call { callee:=.value m,args:=xs,argTypes:=i }) (r:gT (bz φ m)=some (f,cap)) (b:ny (xs.toList.map (bz φ)++jE cap)=jC ks a) (d:pn ks.length a=true)
  (e:iW ks σ=some c) (p:cr c=true) (l:cr σ1=true) (s:dk ks=true) (h:Nat.ble ks.length σ1.length=true) (q:iu N o.dst=true)
  (k:AK X N Qf (.ops all rest::K) .normal (mX o.dst (iC (ks++lL σ.length (σ1.length-ks.length)) res) φ) (cU ks σ1 σ)):AK X N Qf (.ops all (o::rest)::K) .normal φ σ :=
 gA.call (λ_ _ _ _=>dr g) n r ks j b d e p l s (cY h) o.dst rfl (hO q) k
theorem AK.pY{P:Program}{ι:Type}{X:Cx P}{N:Nat}{Qf:Post}{K:List It}{φ:Fr}{σ:List ak}{all rest:List Oper}{o:Oper}{n:Operand}{xs:Array Operand}{i:Array TypeId}{f:FuncId}{cap:List C}{a:List D}{c:List ak}{σ1:ι->List ak}{res:ι->D}(l:fb X f a c res σ1)(ks:List Nat)
  (g:o.guard=none) (p:o.op=.call { callee:=.value n,args:=xs,argTypes:=i }) (s:gT (bz φ n)=some (f,cap)) (b:ny (xs.toList.map (bz φ)++jE cap)=jC ks a) (d:pn ks.length a=true)
  (e:iW ks σ=some c) (q:cr c=true) (m:∀ j,cr (σ1 j)=true) (t:dk ks=true) (h:∀ j,Nat.ble ks.length (σ1 j).length=true) (r:iu N o.dst=true)
  (k:∀ j,AK X N Qf (.ops all rest::K) .normal (mX o.dst (iC (ks++lL σ.length ((σ1 j).length-ks.length)) (res j)) φ) (cU ks (σ1 j) σ)):AK X N Qf (.ops all (o::rest)::K) .normal φ σ :=
 gA.IP (λ_ _ _ _=>dr g) p s ks l b d e q m t (λj=>cY (h j)) o.dst rfl (hO r) k
end Go.AM
namespace Go.AM
open Go.Conc
def et (s:St):Prop:=∀ b o v,s.M b o=some v->s.w.cell? ⟨b,o,none⟩=some v
def iU (c:Nat->Prop):Go.Loc->Prop
  | .cell a=>c a.block
  | .obj r=>c r
  | _=>False
structure Clear (c:Nat->Prop) (s:St):Prop where
  own:∀ b,c b->¬s.own b
  β:∀ b,c b->∀ L∈s.β,b∉L.bs
  M:∀ b,c b->∀ o,s.M b o=none
  lt:∀ b,c b->b<s.w.heap.size
section
variable {c:Nat->Prop} {s s':St}
theorem Clear.step {σ σ':List ak} (h:Clear c s) (st:Step σ s σ' s'):Clear c s':=by
  refine⟨λb a=>by rw[st.own];exact h.own b a,λb a L e d=>?_,λb a o=>by rw[st.gJ b (h.lt b a) (h.β b a)];exact h.M b a o,λb a=>bm (h.lt b a) st.size⟩
  rcases st.pT L e b d with h1|⟨f,g,h1⟩
  · exact absurd (h.lt b a) (Nat.not_lt.2 h1)
  · exact h.β b a f g h1
theorem Clear.ghost (h:Clear c s) (k:er s s'):Clear c s':=by
  have f:∀ b,c b->¬(s'.own b∨∃ L∈s'.β,b∈L.bs):=λb a e=>by
    rcases k.blk b e with e|⟨L,d,e⟩
    · exact h.own b a e
    · exact h.β b a L d e
  exact⟨λb a e=>f b a (.inl e),λb a L d e=>f b a (.inr ⟨L,d,e⟩),λb a o=>by rw[k.gJ b (h.β b a)];exact h.M b a o,λb a=>by rw[k.w];exact h.lt b a⟩
theorem Clear.forget (h:Clear c s) (k:lI s s'):Clear c s':=by
  refine⟨λb a=>by rw[k.own];exact h.own b a,λb a=>by rw[k.β];exact h.β b a,λb a o=>?_,λb a=>by rw[k.w];exact h.lt b a⟩
  cases e:s'.M b o with
  | none=>rfl
  | some v=>rw[<-k.less b o v e,h.M b a o]
theorem Clear.at (h:Clear c s) (d:Nat):Clear c { s with w:=s.w.at d }:=⟨h.own,h.β,h.M,h.lt⟩
theorem et.at (h:et s) (d:Nat):et { s with w:=s.w.at d }:=h
theorem et.ghost (k:er s s'):et s':=λb o v a=>by rw[k.w];exact k.cell b o v a
theorem et.forget (h:et s) (k:lI s s'):et s':=λb o v a=>by rw[k.w];exact h b o v (k.less b o v a)
theorem et.lt (h:et s) {b o:Nat} {v:Value} (a:s.M b o=some v):b<s.w.heap.size:=by
  have:=h b o v a;rcases bC b s.w.heap.size with h1|h1
  · exact h1
  · simp[World.cell?,pH h1] at this
theorem aX.at (h:et s) (d:Nat):aX s { s with w:=s.w.at d }:=⟨rfl,rfl,rfl,ar _,λ_ _=>rfl,h,rfl,rfl,rfl⟩
theorem JB {σ:List ak} {e:Event} (l:ag σ s) (k:Clear c s) (i:lF s e) {B:Nat} (o:s.w.heap.size<=B):EvL (iU c) B e:=by
  obtain⟨n,wr,q⟩:=e;cases n with
  | cell a =>
    obtain⟨h,j,b⟩:=i;simp only at h j b;subst h;have key:¬c a.block/\a.block<s.w.heap.size:=by
      rcases b with b|⟨⟨L,g,b⟩,_⟩|⟨_,v,b⟩
      · exact b.elim
      · exact⟨λx=>k.β _ x L g b,l.lt L g _ b⟩
      · refine⟨λx=>?_,et.lt l.mem b⟩
        rw[k.M _ x] at b;cases b
    exact evL_cell a wr key.1 (bm key.2 o)
  | obj r =>
    obtain⟨h,j⟩:=i;simp only at h j;subst h;obtain⟨L,g,b⟩:=j.resolve_left id;refine⟨λx d p=>?_,by simp,by simp,?_⟩
    · simp[MemAct.ofEvent,MemAct.touch?] at d
      subst d;exact absurd b (k.β _ p L g)
    · simp[MemAct.ofEvent,MemAct.low,Loc.low]
      exact bm (l.lt L g _ b) o
  | mark m =>
    simp only[lF] at i;rcases i with rfl|⟨f,rfl⟩
    · exact⟨λx d=>by simp[MemAct.ofEvent,MemAct.touch?] at d,by simp,by simp,by simp[MemAct.ofEvent,MemAct.low]⟩
    · exact⟨λx d=>by simp[MemAct.ofEvent,MemAct.touch?] at d,by simp,by simp,by simp[MemAct.ofEvent,MemAct.low]⟩
  | _=>exact i.elim
end
def nv (t:Trace):Prop:=∀ a,NoRelease a t
theorem nv.app {t:Trace} (h:nv t) {g:Nat} {fn:FuncId} {pos:String} {es:Array Event} (b:∀ e∈es,∀ a,e.loc≠.mark (.release a)):nv (t++MemOp.ofEvents g fn pos es) :=
  λa=>(h a).app λop eH hx=>by
    obtain⟨e,h1,rfl⟩:=Go.Conc.mem_ofEvents eH;exact b e h1 a (Go.ConcR.loc_of_ofEvent hx)
theorem x8 {s:St} {e:Event} (d:lF s e) (a:Addr):e.loc≠.mark (.release a):=by
  intro b;obtain⟨loc,wr,g⟩:=e;simp only at b;subst b;rcases d with h|⟨f,h⟩ <;> cases h
theorem qt {e:Event} (d:e.mute=true) (a:Addr):e.loc≠.mark (.release a):=by
  intro b;obtain⟨loc,wr,f⟩:=e;simp only at b;subst b;simp[Event.mute] at d
def Mb (P:Program) (g:Goroutine) (s:St) (T:Goroutine->St->Prop):Prop :=
  ∀ (c:Nat->Prop) (e:Array Goroutine) (sl:Option (Nat×Nat)) (t:Trace) (q:Nat->Nat),et s->e[0]?=some g->Leavers P t e q->Past (iU c) s.w.heap.size t->Clear c s->nv t ->
    ∃ (N:Nat) (b:Nat->Prop) (a:Array Goroutine) (g':Goroutine) (s':St) (f:Option (Nat×Nat)) (d:Trace) (h:Nat->Nat),
      runNT P N (crowd e s.w sl) t=(.next (crowd a s'.w f),d)/\et s'/\a[0]?=some g'/\Leavers P d a h/\Past (iU b) s'.w.heap.size d/\Clear b s'/\nv d/\T g' s'
def Cx.beside (P:Program):Cx P:={ main:=true,rely:=λs s'=>aX s s'/\∃ d,s'={ s with w:=s.w.at d },r7:=Mb P,fG:=λh=>h.1,vK:=True }
instance (P:Program):(Cx.beside P).qp:=⟨ab⟩
theorem runNT_add {P:Program}:∀ (N M:Nat) {m b:Machine} {t a:Trace},runNT P N m t=(.next b,a)->runNT P (N+M) m t=runNT P M b a
  | 0,M,m,b,t,a,h=>by simp[runNT] at h;obtain⟨rfl,rfl⟩:=h;simp
  | N+1,M,m,b,t,a,h=>by
    rw[show N+1+M=(N+M)+1 by omega]
    simp only[runNT] at h ⊢;cases d:stepT P m with
    | mk r ops =>
      rw[d] at h;cases r with
      | next m1=>exact runNT_add N M h
      | ended o w=>simp at h
theorem db.beside {P:Program} {S:Goroutine->St->Prop} {g:Goroutine} {s:St} (h:db (Cx.beside P) S g s):Mb P g s S:=by
  induction h with
  | stop h=>intro c b sl t q B p o v u I;exact⟨0,c,b,_,_,sl,t,q,rfl,B,p,o,v,u,I,h⟩
  | ghost hg _ R =>
    intro c b sl t q B p o v u I;have:=R c b sl t q (.ghost hg) p o (by rw[hg.w];exact v) (u.ghost hg) I
    rwa [hg.w] at this
  | forget _ hg _ R =>
    intro c b sl t q B p o v u I;have:=R c b sl t q (B.forget hg) p o (by rw[hg.w];exact v) (u.forget hg) I
    rwa [hg.w] at this
  | r7 hj _ R =>
    intro c b sl t q B p o v u I;obtain⟨N,m,f,g',s',l,E,L,h1,h2,h3,h4,h5,h6,SP,h7⟩:=hj c b sl t q B p o v u I;obtain⟨M,SQ,SR,g2,s2,SU,t2,q2,k1,Y⟩:=R g' s' h7 m f l E L h2 h3 h4 h5 h6 SP;exact⟨N+M,SQ,SR,g2,s2,SU,t2,q2,by rw[runNT_add N M h1];exact k1,Y⟩
  | @step g s ng ns ne hr h1 h2 _ R =>
    intro c b sl t q;have key:∀ (n:Nat) (b:Array Goroutine) (d:Nat) (sl:Option (Nat×Nat)) (t:Trace) (q:Nat->Nat),Go.ConcN.sumTo b.size q<=n->et s->b[0]?=some g->Leavers P t b q->Past (iU c) s.w.heap.size t->Clear c s->nv t ->
        ∃ (N:Nat) (m:Nat->Prop) (f:Array Goroutine) (g':Goroutine) (s':St) (l:Option (Nat×Nat)) (E:Trace) (L:Nat->Nat),
          runNT P N (crowd b (s.w.at d) sl) t=(.next (crowd f s'.w l),E)/\et s'/\f[0]?=some g'/\Leavers P E f L/\Past (iU m) s'.w.heap.size E/\Clear m s'/\nv E/\S g' s':=by
      intro n
      induction n with
      | zero=>?_
      | succ n SV=>?_
      all_goals
        intro b d sl t q I B p o v u H;have SW:∀ g∈b,awake g:=by
          intro x hx;obtain⟨i,hi,rfl⟩:=Array.mem_iff_getElem.1 hx;rcases ig i with rfl|C
          · have:b[0]=g:=by simpa[bJ hi] using p
            rw[this];exact awake_of (.inl hr)
          · exact awake_of ((o.old i _ C (bJ hi)).status.elim .inl λx=>.inr (.inr x))
        obtain⟨i,x,d2,l,hi,hg,J⟩:=crowd_pick (P:=P) (w:=s.w.at d) (sl:=sl) SW ⟨0,g,p,hr⟩;rw[show (s.w.at d).at d2=s.w.at d2 from rfl] at J
        rcases ig i with rfl|C
        · obtain rfl:x=g:=by rw[p] at hi;exact(lD hi).symm
          have A:(Cx.beside P).rely s { s with w:=s.w.at d2 }:=⟨aX.at B d2,d2,rfl⟩;have hgo:=h1 _ A;obtain⟨⟨σ,σ',hh,j9,st⟩,W⟩:=h2 _ A;have r:=runT_crowd_go (P:=P) (sl:=l) (i:=0) hi (show stepG P (0==0) x (s.w.at d2)=_ from hgo)
          have U:((b.map (woken P x (ng { s with w:=s.w.at d2 }) (ns { s with w:=s.w.at d2 }).w)).setIfInBounds 0 (ng { s with w:=s.w.at d2 })).size=b.size:=by simp
          have F:0<b.size:=(dF.1 p).1;have IG:Clear c { s with w:=s.w.at d2 }:=u.at d2;obtain⟨N,m,f,g',s',D,E,L,k1,Y⟩:=R _ A c ((b.map (woken P x (ng { s with w:=s.w.at d2 }) (ns { s with w:=s.w.at d2 }).w)).setIfInBounds 0 (ng { s with w:=s.w.at d2 })) l
            (t++MemOp.ofEvents 0 x.frame.fn x.frame.place (ne { s with w:=s.w.at d2 })) q j9.mem (by simp[F])
            ⟨λj y hj hy=>by
              have K:0≠j:=by omega
              rw[ic K,Array.getElem?_map] at hy;obtain⟨z,hz,rfl⟩:=mS.1 hy;have O:=o.old j z hj hz;rw[woken_quitsD O,Deaf_other t (by omega) _ (λop eH=>by obtain⟨e,_,rfl⟩:=Go.Conc.mem_ofEvents eH;rfl)]
              exact O,λj hj=>by
              rw[Deaf_other t (g':=0) (by simp at hj;omega) _ (λop eH=>by obtain⟨e,_,rfl⟩:=Go.Conc.mem_ofEvents eH;rfl)]
              exact o.above j (by simpa using hj)⟩
            ((v.mono st.size).own λe T=>JB hh IG (W e T) st.size) (IG.step st) (H.app λe T a=>x8 (W e T) a)
          exact⟨N+1,m,f,g',s',D,E,L,by simp only[runNT,J,r];exact k1,Y⟩
        · have O:=o.old i x C hi
          have O0:(i==0)=false:=by simp;omega
          have F:i<b.size:=(dF.1 hi).1;cases Q:q i with
          | zero=>rw[Q] at O;rw[O.1] at hg;cases hg
          | succ k =>
            rw[Q] at O;rcases O with⟨hf,_⟩|⟨_,g',es,Z,X,SX⟩
            · rw[hf] at hg;cases hg
            have SY:Go.ConcN.sumTo b.size (Go.ConcN.upd q i k)+(k+1)=Go.ConcN.sumTo b.size q+k:=by
              have:=Go.ConcN.sumTo_upd q k id F;simpa[Q] using this
            first
            | (exfalso;omega)
            | (have r:=runT_crowd_go (P:=P) (sl:=l) (i:=i) hi (by rw[O0];exact X (s.w.at d2))
               have U:((b.map (woken P x g' (s.w.at d2))).setIfInBounds i g').size=b.size:=by simp
               obtain⟨N,m,f,g2,s',D,E,L,k1,Y⟩:=SV ((b.map (woken P x g' (s.w.at d2))).setIfInBounds i g') d2 l (t++MemOp.ofEvents i x.frame.fn x.frame.place es) (Go.ConcN.upd q i k) (by rw[U];omega) B
                (by
                  have K:i≠0:=by omega
                  rw[ic K,Array.getElem?_map,p];simp[woken_run hr])
                ⟨λj y hj hy=>by
                  by_cases G:i=j
                  · subst G
                    rw[jR (by simpa using F)] at hy
                    obtain rfl:=lD hy;rw[Go.ConcN.upd_same,Deaf_own];exact SX
                  · rw[ic G,Array.getElem?_map] at hy
                    obtain⟨z,hz,rfl⟩:=mS.1 hy;have V:=o.old j z hj hz;rw[woken_quitsD V,Go.ConcN.upd_ne q k (Ne.symm G),Deaf_other t G _ (λop eH=>by obtain⟨e,_,rfl⟩:=Go.Conc.mem_ofEvents eH;rfl)]
                    exact V,λj hj=>by
                  rw[Deaf_other t (g':=i) (by simp at hj;omega) _ (λop eH=>by obtain⟨e,_,rfl⟩:=Go.Conc.mem_ofEvents eH;rfl)]
                  exact o.above j (by simpa using hj)⟩
                (v.mute (by omega) Z) u (H.app λe T a=>qt (Z e T) a)
               exact⟨N+1,m,f,g2,s',D,E,L,by simp only[runNT,J,r];exact k1,Y⟩)
    intro B p o v u H;have:=key _ b s.w.drawn sl t q (ar _) B p o v u H
    rwa [show s.w.at s.w.drawn=s.w from rfl] at this
end Go.AM
namespace Go.AM
open Go.RowKit
open Go.Conc (G solo crowd AtRel Past EvL Leavers)
def St.top(w:World):St:={ β:=[],M:=λb o=>w.cell? ⟨b,o,none⟩,w:=w,own:=λb=>b<w.heap.size }
theorem ag.top(w:World):ag [] (St.top w):=⟨λ_ _ _ h=>h,rfl,by simp,by simp[St.top],by simp[St.top],λb a=>⟨a,by simp[St.top]⟩⟩
theorem Ko{P:Program}{f:FuncId}{c:Frame}{v:Value}{s:St}(h:uk P f c v s)(hi:P.inits.idxOf? f=none)(w:World)(j:∀ b o u,s.M b o=some u->w.cell? ⟨b,o,none⟩=some u):∃ es,stepG P true (G c []) w=.ended (.done v) w es/\∀ e∈es,∃ b o u,e=⟨.cell ⟨b,o,none⟩,false,false⟩/\s.M b o=some u:=by
 obtain⟨fn,i,a⟩:=h.fn;obtain⟨l,k⟩:=a w j;refine⟨seen P c.fn ((results fn c.tmps).events P w #[]),?_,λe g=>k e (Go.Conc.mem_seen g)⟩
 have d:P.inits.idxOf? c.fn=none:=by rw[h.SO];exact hi
 simp[G,stepG,unwind,doReturn,h.mode,h.defers,h.kind,i,l,d,GStep.after]
theorem fb.Qe{P:Program}{ι:Type}{f:FuncId}{args:List D}{res:ι->D}{σ':ι->List ak}(h:fb (Cx.beside P) f args [] res σ')(hi:P.inits.idxOf? f=none){w:World}{vs:List Value}(y:bZ [] (St.top w) vs args){Post:Value->World->Prop}
  (I:∀ i v s',b5 (σ' i) s' v (res i)->ag (σ' i) s'->Below w.heap.size w s'.w->∀ d,Post v (s'.w.at d)) :
  ∃ M last o w' t',runNT P (M+1) (solo (G (Frame.enter P f vs.toArray .normal) []) w) #[]=(.ended o w',t')/\runN P M (solo (G (Frame.enter P f vs.toArray .normal) []) w)=.next last /\
   step P last=.ended o w'/\Go.Conc.Good P Post last o w' t':=by
 have key:=h.2 (St.top w) vs y (ag.top w) (λg s'=>∃ i v fr,g=G fr []/\uk P f fr v s'/\b5 (σ' i) s' v (res i)/\ag (σ' i) s'/\Below w.heap.size w s'.w) []
  (λi fr v s' h1 h2 h3 h4=>.stop ⟨i,v,fr,rfl,h1,h2,h3,⟨h4.os,h4.tape,h4.output,h4.size,λk F=>h4.ee k F⟩⟩)
 have K:AM.iU (λ_=>False)=λ_=>False:=by funext l;cases l <;> rfl
 obtain⟨N,s,q,g',s',c,t',S,h1,h2,h3,h4,z,R,T,⟨i,v,fr,rfl,k1,Q,E,J⟩⟩:=key.beside (λ_=>False) #[G (Frame.enter P f vs.toArray .normal) []] none #[] (λ_=>0) (ag.top w).mem rfl (Go.Conc.leavers_one P _)
  (by rw[K];exact Go.Conc.past_nil.mono (kS _)) ⟨λ_ h=>h.elim,λ_ h=>h.elim,λ_ h=>h.elim,λ_ h=>h.elim⟩ (λa=>by intro i hi;simp[Trace.act?] at hi)
 have j:=Go.Conc.beside_ends (P:=P) (Shun:=AM.iU s) (B:=s'.w.heap.size) (D:=λ_ _ _=>False) (Post:=Post) (λ_ _ _ h=>h.elim) (sl:=c) (n:=0) h3 h4 z (Go.Conc.Goes.stop λw1 MS=>by
  obtain⟨d,rfl⟩:=MS;obtain⟨es,e1,e2⟩:=Ko k1 hi (s'.w.at d) (λb o u m=>h2 b o u m)
  refine⟨rfl,v,es,e1,λe x=>?_,I i v s' Q E J d⟩
  obtain⟨b,o,u,rfl,m⟩:=e2 e x;refine Go.Conc.evL_cell _ _ (λt=>?_) (et.lt h2 m)
  have:=R.M b t o;rw[m] at this;cases this)
 obtain⟨p,last,o,w',C,L,O,A,H⟩:=j;refine⟨N+p,last,o,w',C,?_,?_,A,H⟩
 ·rw[show N+p+1=N+(p+1) by omega]
  exact(runNT_add N (p+1) h1).trans L
 ·have e:=runNT_fst P N (crowd #[G (Frame.enter P f vs.toArray .normal) []] w none) #[];have r:(runNT P N (crowd #[G (Frame.enter P f vs.toArray .normal) []] w none) #[]).1=.next (crowd q s'.w c):=by
   have:runNT P N (crowd #[G (Frame.enter P f vs.toArray .normal) []] w none) #[]=_:=h1;rw[this]
  rw[r] at e;rw[Go.Conc.solo_eq_crowd,runN_add,<-e];exact O
end Go.AM
namespace Go.AM
section
variable {H:Type}{enc:TypeId×Value->H}{P:Program}{W:World}
theorem AQ{w:World}{a:Addr}{v:Value}(h:w.cell? (a.add 0)=some v):a=⟨a.block,a.off,none⟩:=by
 obtain⟨b,o,s⟩:=a;cases s with
 |none=>rfl
 |some q =>
  simp only[Addr.add,aV,World.cell?] at h;split at h
  ·simp at h
  ·cases h
theorem FJ{w:World}{a:Addr}{n:Nat}{v:Value}(h:w.cell? (a.add n)=some v):w.cell? ⟨a.block,a.off+n,none⟩=some v:=by
 by_cases e:n=0
 ·subst e;have c:=AQ h;obtain⟨b,o,s⟩:=a;simp only[Addr.mk.injEq,ai] at c;subst c;exact h
 ·simpa only[Addr.add,an e] using h
def Reads(enc:TypeId×Value->H)(P:Program)(W:World){α:Type}(t:TypeId)(c:α->List C):Prop :=
 ∀ (fuel:Nat) (cs:List Value) (x:DataW H×List MemPlace),DataW.trod enc P W 0 (λ_=>true) true fuel t cs=some x->∃ a,tj (St.top W).M cs (c a)
theorem Reads.int{t:TypeId}(b:P.underlying t=some (.int .i64)):Reads enc P W t (λn:Int=>[.int .i64 n]):=λfuel cs x h=>by
 obtain⟨n,rfl,_,a⟩:=DataW.trod_int b h;simp only[Lit.wf,bF,aD] at a;exact⟨n,Rd.int a,ab⟩
theorem Reads.str{t:TypeId}(a:P.underlying t=some .string):Reads enc P W t (λs:Bs=>[.str s]):=λfuel cs x h=>by
 obtain⟨s,rfl,_,hl⟩:=DataW.trod_string a h;exact⟨s.data.toList,Rd.str rfl (by simpa[maxLen] using hl),ab⟩
theorem tj.get{M:Mem}:∀ {vs:List Value}{cs:List C}{j:Nat}{c:C},tj M vs cs->cs[j]?=some c->∃ v,vs[j]?=some v/\Rd M v c
 |[],[],_,_,_,h=>by simp at h
 |v::vs,a::cs,0,c,h,hj=>by simp at hj;subst hj;exact⟨v,rfl,h.1⟩
 |v::vs,a::cs,j+1,c,h,hj=>by
  obtain⟨u,h1,h2⟩:=tj.get (vs:=vs) (cs:=cs) (j:=j) h.2 (by simpa using hj)
  exact⟨u,by simpa using h1,h2⟩
 |[],_::_,_,_,h,_=>h.elim
 |_::_,[],_,_,h,_=>h.elim
theorem Reads.sl{α:Type}{t e:TypeId}(c:jm α)(A:P.underlying t=some (.slice e))(y:P.cellsOf e=c.k)(J:0<c.k)(D:Reads enc P W e c.enc):Reads enc P W t (λl:List α=>[.sl false c.k l.length (c.fn l)]):=λfuel cs x h=>by
 rcases DataW.trod_slice A h with⟨rfl,_⟩|⟨a,len,cap,b,rest,m,_,rfl,_,_,s,w,F,d,_⟩
 ·exact⟨[],Rd.iS,ab⟩
 have n:∀ i,i<len->∃ f:α,∃ vs:List Value,tj (St.top W).M vs (c.enc f)/\∀ j v,vs[j]?=some v->W.cell? (a.add (i*c.k+j))=some v:=by
  intro i hi;have h1:=d i hi;rw[y,aj (by omega:i<b.length)] at h1
  cases p:W.cells? 0 (a.add (i*c.k)) c.k with
  |none=>rw[p] at h1;cases h1
  |some cs =>
   rw[p] at h1;obtain⟨_,hl,o⟩:=World.cells?_some p;obtain⟨f,I⟩:=D _ _ _ h1;refine⟨f,cs,I,λj v hj=>?_⟩
   have z:=(aE.1 hj).1;have:=o j (by omega)
   rw[Go.Deep.add_add,hj] at this;exact this
 have r:∃ g:Nat->α,∀ i,i<len->∃ vs:List Value,tj (St.top W).M vs (c.enc (g i))/\∀ j v,vs[j]?=some v->W.cell? (a.add (i*c.k+j))=some v:=by
  classical
  exact⟨λi=>if hi:i<len then Classical.choose (n i hi) else c.bD,λi hi=>by simp only[dif_pos hi];exact oe (n i hi)⟩
 obtain⟨g,E⟩:=r;have u:∀ i,i<len->c.fn ((List.range len).map g) i=c.enc (g i):=λi hi=>by
  simp[jm.fn,CZ,List.getD_eq_getElem?_getD,hi]
 refine⟨(List.range len).map g,?_,ab⟩;rw[iN,List.length_range];have cell:∀ i,i<len->∀ j q,(c.enc (g i))[j]?=some q->∃ v,W.cell? ⟨a.block,a.off+i*c.k+j,none⟩=some v/\Rd (St.top W).M v q:=λi hi j q hj=>by
  obtain⟨vs,h1,h2⟩:=E i hi;obtain⟨v,B,G⟩:=h1.get hj;refine⟨v,?_,G⟩;have:=FJ (h2 j v B)
  rwa [<-iz] at this
 refine Rd.sl a.block a.off (λi j=>(W.cell? ⟨a.block,a.off+i*c.k+j,none⟩).getD undef) s w (by simp) (λi hi=>by rw[u i hi];exact c.len _) (λC=>?_) (λi hi j q hj=>?_) (λi hi j q hj=>?_)
 ·have h1:=d 0 C;rw[y,aj (by omega:0<b.length)] at h1
  cases p:W.cells? 0 (a.add (0*c.k)) c.k with
  |none=>rw[p] at h1;cases h1
  |some cs =>
   obtain⟨_,hl,o⟩:=World.cells?_some p;have:=o 0 (by omega)
   rw[Go.Deep.add_add,Nat.zero_mul,aw,aj (by omega)] at this
   exact b8 some (AQ this)
 ·rw[u i hi] at hj;obtain⟨v,h1,_⟩:=cell i hi j q hj;show W.cell? _=_;rw[h1];rfl
 ·rw[u i hi] at hj;obtain⟨v,h1,h2⟩:=cell i hi j q hj;show Rd _ ((W.cell? _).getD undef) _;rw[h1];exact h2
def oN(enc:TypeId×Value->H)(P:Program)(W:World){α:Type}(fs:List Field)(off tot:Nat)(c:α->List C):Prop :=
 ∀ (k:Nat) (cs:List Value) (b:List (DataW H×List MemPlace)),cs.length=tot->b.length=fs.length->(∀ (j:Nat) (f:Field),fs[j]?=some f->DataW.trod enc P W 0 (λ_=>true) true k f.type ((cs.drop f.offset).take (P.cellsOf f.type))=b[j]?)->∃ a,tj (St.top W).M (cs.drop off) (c a)
theorem oN.one{α:Type}{f:Field}{off tot:Nat}{c:α->List C}(h:Reads enc P W f.type c)(d:f.offset=off)(e:off+P.cellsOf f.type=tot):oN enc P W [f] off tot c:=λk cs ys hl hy hg=>by
 have:=hg 0 f rfl;rw[aj (by simp[hy])] at this
 obtain⟨a,b⟩:=h _ _ _ this;rw[d,List.take_of_length_le (by simp;omega)] at b
 exact⟨a,b⟩
theorem oN.cons{α β:Type}{f:Field}{fs:List Field}{off n tot:Nat}{a:α->List C}{b:β->List C}(h:Reads enc P W f.type a)(g:f.offset=off)(m:P.cellsOf f.type=n)(r:oN enc P W fs (off+n) tot b):oN enc P W (f::fs) off tot (λx:α×β=>a x.1++b x.2):=λk cs ys hl hy hg=>by
 have d:=hg 0 f rfl;rw[aj (by rw[hy];simp)] at d
 obtain⟨x,c⟩:=h _ _ _ d;cases ys with
 |nil=>simp at hy
 |cons y ys =>
  obtain⟨z,l⟩:=r k cs ys hl (by simpa using hy) (λj i hj=>by have:=hg (j+1) i (by simpa using hj);simpa using this)
  rw[g,m] at c;refine⟨(x,z),?_⟩;have e:cs.drop off=(cs.drop off).take n++cs.drop (off+n):=by rw[<-List.drop_drop,jT]
  rw[e];exact c.app l
theorem Reads.struct{α:Type}{t:TypeId}{fs:Array Field}{tot:Nat}{c:α->List C}(e:P.underlying t=some (.struct fs))(b:P.cellsOf t=tot)(r:oN enc P W fs.toList 0 tot c):Reads enc P W t c:=λfuel cs x h=>by
 obtain⟨d,k,_,_,hl,i,g⟩:=DataW.trod_struct e h;obtain⟨a,l⟩:=r k cs d (hl.trans b) (by simpa using i) (λj f hj=>g j f (by simpa using hj))
 exact⟨a,by simpa using l⟩
theorem Reads.to{α:Type}{t:TypeId}{c b:α->List C}(h:Reads enc P W t c)(e:∀ a,c a=b a):Reads enc P W t b:=by rwa [show c=b from funext e] at h
theorem Reads.agg{α:Type}{t:TypeId}{c:α->List C}(h:Reads enc P W t c){vs:List Value}{d:DataW H}{p:List MemPlace}(f:DataW.Trod enc P W 0 (λ_=>true) true t (.agg vs.toArray) d p):∃ a,b5 [] (St.top W) (.agg vs.toArray) (.e (.agg (OR (c a)))):=by
 obtain⟨fuel,g⟩:=f;obtain⟨a,b⟩:=h _ _ _ g;exact⟨a,vs,rfl,yX (s:=St.top W) (by simpa[Value.cells] using b)⟩
end
end Go.AM
namespace Go.AM
open Go.Conc (G)
theorem DR{a:Act}{d:Nat}{v:Value}(h:d<a.tmps.size):(a.put (some d) v).tmps.getD d undef=v:=by
 simp[Act.put,bA,jR h]
theorem iV{P:Program}{f:FuncId}{fn:Func}{e:Array Value->Sem Value}(d:P.funcs[f]?=some fn)(a:(fn.name== "runtime.NumGoroutine")=false)
  (b:fn.body.isNone=true) (j:Extern.findNext fn=none) (i:Extern.find fn=some e) (args:Array Value) (c:bM P (e args)) (w:World) (es:Array Event) :
  (callFunc f args).events P w es=es.push ⟨.mark (.extern f),false,true⟩:=by
 have g:fn.name≠ "runtime.NumGoroutine":=by simpa using a
 have h:fn.body=none:=by simpa using b
 simp[callFunc,d,g,h,j,i];rw[c w]
section
variable {P:Program}{X:Cx P}{N:Nat}{Qf:Post}{K:List It}{φ:Fr}{σ:List ak}{all rest:List Oper}{o:Oper}
theorem AK.hand{ι:Type}(x:ι->D)(σ':ι->List ak)(r:o.guard=none)(u:iu N o.dst=true)
  (h:∀ s a,bg N σ s φ a->ag σ s->∃ i e s' v,(execOp a.eval o).run P s.w=.ok e s'.w/\(e=.value v∨(e=.skip/\v=undef))/\b5 (σ' i) s' v (x i)/\ag (σ' i) s'/\Step σ s (σ' i) s'/\eW s ((execOp a.eval o).events P s.w #[]))
  (k:∀ i,AK X N Qf (.ops all rest::K) .normal (mX o.dst (x i) φ) (σ' i)):AK X N Qf (.ops all (o::rest)::K) .normal φ σ:=by
 intro s a f hh b kk cs S idx hb lM hQ;cases idx with
 |nil=>exact lM.elim
 |cons j idx =>
 refine yr hb lM.1 (dr r) λB d=>?_
 have c:=hh.rely d;have m:=f.rely d hh;obtain⟨i,e,s',v,h1,h2,A,p,n,C⟩:=h B a m c;have l:=n.mG c;refine⟨e,s',v,h1,h2,⟨⟨σ,σ' i,c,p,n⟩,C⟩,?_⟩;refine k i s' _ ?_ p b kk cs S idx hb lM.2 λg σ2 s2 a2 q y h2 st=>hQ g σ2 s2 a2 q y h2 ((d.stepW.trans l).trans st)
 cases z:o.dst with
 |none=>exact m.mono l c.len
 |some t=>exact(m.mono l c.len).put (hO u t z) A
theorem AK.law{x:D}{σ':List ak}(h:aH P o (bz φ) σ x σ')(a:o.guard=none)(b:iu N o.dst=true)
  (k:AK X N Qf (.ops all rest::K) .normal (mX o.dst x φ) σ'):AK X N Qf (.ops all (o::rest)::K) .normal φ σ :=
 AK.one (.ju (λ_ _ _ _=>dr a) h) b k
end
end Go.AM
namespace Go.AM
inductive Mm where
 |nil (a:Option Addr)
 |row (b cap:Nat)
def Mn(bf:Mm)(n:Nat):Value:=match bf with
 |.nil a=>.slice a 0 0
 |.row b cap=>.slice (some ⟨b,0,none⟩) n cap
def vM(xs:List Value):Nat->List C:=λi=>[.val (xs.getD i undef)]
section
variable {P:Program}{X:Cx P}{N:Nat}{Qf:Post}{K:List It}{φ:Fr}{σ:List ak}{all rest:List Oper}{o:Oper}
theorem Rd.kX{M:Mem}{b cap:Nat}{xs zs:List Value}(e:∀ x∈xs,cE x=true)(hl:(xs++zs).length=cap)(f:cap<=9223372036854775807)(d:∀ o,M b o=xs[o]?):Rd M (.slice (some ⟨b,0,none⟩) xs.length cap) (.sl false 1 xs.length (vM xs)):=by
 refine Rd.oh (M:=M) (k:=1) (n:=xs.length) (es:=vM xs) (vs:=xs) (a:=some ⟨b,0,none⟩) (b:=b) (off:=0) (cap:=cap) (t:=false) ⟨by simp,λi _=>rfl,λi hi j c hj=>?_⟩ (λ_=>rfl) (by rw[<-hl];simp) f (by simp) (λp u g=>by rw[d,aw];exact g)
 cases j with
 |zero =>
  simp[vM] at hj;subst hj;refine⟨xs[i],by simp[hi],?_⟩
  simp[hi];exact .val (e _ (gF hi))
 |succ j=>simp[vM] at hj
end
end Go.AM
namespace Go.AM
open Go.Conc (G)
def JE:C->Bool
 |.int _ _|.bool _|.str _|.kg|.kW|.uq|.val _=>true
 |_=>false
def r8:A->Bool
 |.c x=>JE x
 |.any=>true
 |_=>false
def GQ:List A->Bool
 |[]=>true
 |a::r=>match r8 a with|true=>GQ r|false=>false
def Ml:E1->Bool
 |.one a=>r8 a
 |.agg cs=>GQ cs
section
variable {σ σ':List ak}{s s':St}
theorem zP{M M':Mem}{v:Value}{c:C}(h:JE c=true)(r:Rd M v c):Rd M' v c:=by
 cases r <;> first|(simp[JE] at h;done)|skip
 case int h1=>exact .int h1
 case bool=>exact .bool
 case str h1 h2=>exact .str h1 h2
 case kg=>exact .kg
 case kW=>exact .kW
 case uq=>exact .uq
 case val h1=>exact .val h1
theorem zQ{v:Value}{a:A}(h:r8 a=true)(r:eQ σ s v a):eQ σ' s' v a:=by
 cases a with
 |c x=>exact zP h r
 |any=>exact r
 |_=>simp[r8] at h
theorem zR:∀ {vs:List Value}{cs:List A},GQ cs=true->cu σ s vs cs->cu σ' s' vs cs
 |[],[],_,_=>trivial
 |[],_::_,_,r=>r.elim
 |_::_,[],_,r=>r.elim
 |v::vs,c::cs,h,r=>by
  simp only[GQ] at h;cases a:r8 c with
  |false=>simp[a] at h
  |true=>simp only[a] at h;exact⟨zQ a r.1,zR h r.2⟩
theorem GR{v:Value}{x:E1}(h:Ml x=true)(r:jr σ s v x):jr σ' s' v x:=by
 cases x with
 |one a=>exact zQ h r
 |agg cs=>obtain⟨vs,c,b⟩:=r;exact⟨vs,c,zR h b⟩
end
def qp(σ:List ak)(lb:Nat)(u:Value)(k n:Nat)(es:Nat->List C):Prop :=
 ∀ s,ag σ s->∃ (L:Loc) (M':Mem),s.β[lb]?=some L/\(∀ b o v,s.M b o=some v->M' b o=some v)/\(∀ b,b∉L.bs->∀ o,M' b o=s.M b o)/\(∀ b o v,M' b o=some v->s.w.cell? ⟨b,o,none⟩=some v) /\
  (∀ b∈L.bs,∀ o,s.M b o=none)/\Rd M' u (.sl false k n es)
section
variable {P:Program}{X:Cx P}{N:Nat}{Qf:Post}{K:List It}{φ:Fr}{σ:List ak}{all rest:List Oper}{o:Oper}
end
end Go.AM
namespace Go.AM
def vH(E:TypeId)(k:Nat)(bf:Mm)(n:Nat)(xs:List Value):Value->(Nat->Option Obj)->Prop:=λv c=>v=.nilFunc/\(∀ x∈xs,cE x=true)/\xs.length=n*k/\match bf with
 |.nil _=>n=0/\c=λ_=>none
 |.row b cap=>n<=cap/\cap<=9223372036854775807/\∃ a,(xs++a).length=cap*k/\c=λd=>if d=b then some (.cells (xs++a).toArray E (0,0)) else none
theorem vH.lookup{E:TypeId}{k b cap n:Nat}{xs:List Value}{v:Value}{ch:Nat->Option Obj}(h:vH E k (.row b cap) n xs v ch):∃ a,(xs++a).length=cap*k/\ch b=some (.cells (xs++a).toArray E (0,0))/\∀ c,(ch c).isSome=true↔c=b:=by
 obtain⟨_,_,_,_,_,a,h1,h2⟩:=h;refine⟨a,h1,by rw[h2];simp,λc=>?_⟩
 rw[h2]
 by_cases e:c=b <;> simp[e]
section
variable {P:Program}{X:Cx P}{N:Nat}{Qf:Post}{K:List It}{φ:Fr}{σ:List ak}{all rest:List Oper}{o:Oper}
theorem vH.II{E:TypeId}{k n lb:Nat}{bf:Mm}{xs:List Value}(hl:σ[lb]?=some (.cQ (vH E k bf n xs)))(es:Nat->List C)(f:∀ i,i<n->(es i).length=k/\∀ M j c x,(es i)[j]?=some c->xs[i*k+j]?=some x->Rd M x c):qp σ lb (Mn bf n) k n es:=by
 intro s hh;have m:lb<σ.length:=(aE.1 hl).1;have w:lb<s.β.length:=by rw[hh.len];exact m
 have A:=aj w;generalize s.β[lb]=L at A;obtain⟨ch,H,g,G,e⟩:=hh.box lb _ L hl A;cases bf with
 |nil a0 =>
  obtain⟨_,_,_,rfl,_⟩:=H;exact⟨L,s.M,A,λ_ _ _ h=>h,λ_ _ _=>rfl,hh.mem,e,Rd.iS⟩
 |row b cap =>
  obtain⟨U,T,d,J⟩:=H.lookup;obtain⟨S,D,y,q,B,_⟩:=H;have l:b∈L.bs:=(G b).2 (by rw[d];rfl)
  have z:=g b _ d;obtain⟨c1,c2⟩:=hh.C8 (b:=b) (vs:=xs) (e b l) (λo v O=>by
   simp only[World.cell?,z];have:o<xs.length:=(aE.1 O).1;simpa[bS this] using O)
  refine⟨L,λF o=>if F=b then xs[o]? else s.M F o,A,c2,λF I o=>an (by rintro rfl;exact I l),c1.mem,e,?_⟩
  refine Rd.oh (k:=k) (n:=n) (es:=es) (vs:=xs) (a:=some ⟨b,0,none⟩) (b:=b) (off:=0) (cap:=cap) (t:=false) ⟨y,λi hi=>(f i hi).1,λi hi j c hj=>?_⟩ (λ_=>rfl) q B (by simp) (λp u R=>by simpa using R)
  have Q:j<k:=by rw[<-(f i hi).1];exact(aE.1 hj).1
  have r:i*k+j<xs.length:=by
   rw[y];have:i*k+k<=n*k:=by rw[<-kR];exact eb _ hi
   omega
  exact⟨xs[i*k+j],aj r,(f i hi).2 _ j c _ hj (aj r)⟩
theorem AK.x9(t l:Nat){E:TypeId}{k n:Nat}{bf:Mm}{xs:List Value}(es:Nat->List C){c:Code}(D:look φ t=.e (.one (.v (Mn bf n))))(hl:σ[l]?=some (.cQ (vH E k bf n xs)))(m:∀ i,i<n->(es i).length=k/\∀ M j c x,(es i)[j]?=some c->xs[i*k+j]?=some x->Rd M x c)
  (kk:AK X N Qf (.code c::K) .normal ((t,.e (.one (.c (.sl false k n es))))::φ) (σ.set l .dead)):AK X N Qf (.code c::K) .normal φ σ:=by
 refine AK.ghost (λs a g hh=>?_) kk
 obtain⟨L,M',p,q,w,F,H,z⟩:=vH.II hl es m s hh;have d:l<σ.length:=(aE.1 hl).1;have r:=g.slot t;rw[D] at r;have y:=Rd.ft r;have ex:Ext σ s (σ.set l .dead) { s with M:=M' }:=by
  refine⟨q,λl' B L' ir eY=>?_⟩
  by_cases e:l=l'
  ·subst e;rw[hl] at ir;cases ir;exact⟨.dead,L',by rw[br d],eY,rfl⟩
  ·exact⟨B,L',by rw[b7 e];exact ir,eY,.refl _ _⟩
 have st:Step σ s (σ.set l .dead) { s with M:=M' }:=by
  refine⟨ar _,λ_ _ _=>rfl,q,λb _ G o=>w b (G L (aG p)) o,λL h b f=>.inr ⟨L,h,f⟩,ex.box,rfl,rfl,rfl,rfl⟩
 refine⟨{ s with M:=M' },rfl,⟨g.size,g.defers.imp λ_ h1=>h1.mono st.ext,λu=>?_⟩,⟨F,by simp[hh.len],?_,hh.eE,hh.lt,hh.own⟩,st⟩
 ·simp only[look];cases f:Nat.beq t u with
  |false=>exact(g.slot u).mono st.ext hh.len
  |true =>
   have e:=bk f;subst e;show Rd _ _ _;rw[y];exact z
 ·intro l' B L' ir eY
  by_cases e:l=l'
  ·subst e;rw[br d] at ir;cases ir;trivial
  ·rw[b7 e] at ir;exact(hh.box l' B L' ir eY).carry ex hh.len λb f=>⟨rfl,w b λA=>e (hh.eE l l' L L' p eY b A f)⟩
end
end Go.AM
namespace Go.AM
open Go.Conc (G)
structure zT (k n:Nat)(es:Nat->List C)(xs:List Value):Prop where
 len:xs.length=n*k
 wid:∀ i,i<n->(es i).length=k
 at':∀ i,i<n->∀ j c,(es i)[j]?=some c->∃ x,xs[i*k+j]?=some x/\∀ M,Rd M x c
def IL(v:Value):A->A
 |.vec 0 _ _ _=>.v v
 |a=>a
def Dc(v:Value):E1->E1
 |.one a=>.one (IL v a)
 |e=>e
def yb(v:Value):List E1->List E1
 |[]=>[]
 |a::r=>Dc v a::yb v r
def IM(v:Value):D->D
 |.e x=>.e (Dc v x)
 |.eD xs=>.eD (yb v xs)
 |.any=>.any
def mg(n:Nat):A->Bool
 |.vec 0 _ b _=>Nat.beq b n
 |a=>r8 a
def pW(n:Nat):E1->Bool
 |.one a=>mg n a
 |e=>Ml e
def nx(n:Nat):List E1->Bool
 |[]=>true
 |a::r=>match pW n a with|true=>nx n r|false=>false
def zS(n:Nat):D->Bool
 |.e x=>pW n x
 |.eD xs=>nx n xs
 |.any=>true
section
variable {σ':List ak}{s s':St}{E:TypeId}{k n:Nat}{es:Nat->List C}{L:Loc}
end
section
variable {P:Program}{X:Cx P}{N:Nat}{Qf:Post}{K:List It}{φ:Fr}{σ:List ak}{all rest:List Oper}{o:Oper}
def JF(vs:List Value)(cs:List A):Prop:=vs.length=cs.length/\∀ (j:Nat)(c:C),cs[j]?=some (A.c c)->∃ v,vs[j]?=some v/\∀ M,Rd M v c
theorem cu.cE{σ:List ak}{s:St}:∀ {vs:List Value}{cs:List A},cu σ s vs cs->∀ v∈vs,AM.cE v=true
 |[],[],_,v,h=>by simp at h
 |[],_::_,r,_,_=>r.elim
 |_::_,[],r,_,_=>r.elim
 |u::vs,c::cs,r,v,h=>by
  rcases dy.1 h with rfl|h
  ·exact eQ.cell r.1
  ·exact cu.cE r.2 v h
theorem AK.C9{T:List (Nat×TI)}(hT:bX P T){t:TypeId}{x y:Operand}{i p:TI}{E:TypeId}{n:Nat}{O S:IntKind}(h:o.op=.makeSlice t x y)(hi:aJ T t=some i)(hd:i.desc=.slice E)(hE:aJ T E=some p)
  (hx:bz φ x=.e (.one (.c (.int O n)))) (hy:bz φ y=.e (.one (.c (.int S n)))) (B:n*p.bytes<=140737488355328) (Tc:n<=140737488355328) (hg:o.guard=none) (hN:iu N o.dst=true)
  (kk:∀ b xs,AK X N Qf (.ops all rest::K) .normal (mX o.dst (.e (.one (.v (Mn (.row b n) n)))) φ) (σ++[.cQ (vH E p.size (.row b n) n xs)])):AK X N Qf (.ops all (o::rest)::K) .normal φ σ:=by
 refine AK.hand (ι:=Nat×List Value) (λq=>.e (.one (.v (Mn (.row q.1 n) n)))) (λq=>σ++[.cQ (vH E p.size (.row q.1 n) n q.2)]) hg hN (λs a hf hh=>?_) λq=>kk q.1 q.2
 have l:=fK hf x;rw[hx] at l;have l:=eB l;generalize F:a.eval x=vx at l;cases l;have j:=fK hf y;rw[hy] at j;have j:=eB j;generalize I:a.eval y=vy at j;cases j;have m:=(hT t i hi).LL;rw[hd] at m;obtain⟨f,z,L,z2,z3,z4,z5,z6,z7⟩:=(hT E p hE).info;have d:(f.bytes:Int)*(n:Int)<=281474976710656:=by
  have h':((f.bytes*n:Nat):Int)<=281474976710656:=by rw[z3,iA];omega
  rwa [Int.natCast_mul] at h'
 have r:=run_make (P:=P) (w:=s.w) t E f z m L z4 O S n n (by omega) (Int.le_refl _) d (by omega)
 simp only[az] at r
 let xs:=(madeCells z.cells (n*f.size)).toList
 have H:xs.length=n*p.size:=by
  simp only[xs,fx,size_madeCells,z2]
 have Y:∀ v∈z.cells.toList,cE v=true:=cu.cE (hI (σ:=σ) (s:=s) z5);have W:z.cells.toList.length=p.size:=by
  have:=b8 List.length z5;simp only[iN] at this;rw[this,z7]
 have Z:∀ v∈xs,cE v=true:=by
  intro v hv;simp only[xs,madeCells,Array.toList_map,nn] at hv;obtain⟨q,hq,rfl⟩:=hv;have G:0<z.cells.size:=by
   rcases ig z.cells.size with e|e
   ·have:p.size=0:=by rw[<-W];simpa using e
    rw[z2,this] at hq;simp at hq
   ·exact e
  rw[nk z.cells _ (jA _ G)];exact Y _ (by simp)
 have hB:dq (σ++[.cQ (vH E p.size (.row s.w.heap.size n) n xs)]) { s with w:=s.w.alloc (.cells xs.toArray E),β:=s.β++[⟨.nilFunc,[s.w.heap.size]⟩] } (.cQ (vH E p.size (.row s.w.heap.size n) n xs)) ⟨.nilFunc,[s.w.heap.size]⟩:=by
  refine⟨λD=>if D=s.w.heap.size then some (.cells (xs++[]).toArray E (0,0)) else none,⟨rfl,Z,H,ar _,by omega,[],by simp[H],rfl⟩,λD o d=>?_,λD=>?_,λD d o=>?_⟩
  ·by_cases e:D=s.w.heap.size
   ·subst e;simp only[aV] at d;cases d;rw[gH];exact cC s.w _
   ·simp[e] at d
  ·by_cases e:D=s.w.heap.size <;> simp[e]
  ·simp at d;subst d;cases R:s.M s.w.heap.size o with
   |none=>rfl
   |some v=>have:=hh.block R;omega
 have J:ag σ { s with w:=s.w.alloc (.cells xs.toArray E) }/\Step σ s σ { s with w:=s.w.alloc (.cells xs.toArray E) } :=
  hh.grow (by simp) (λb B=>bP s.w _ B) (λb B o=>rfl) (λb B o v R=>by
   have:=hh.block R;omega) rfl rfl rfl
 obtain⟨g1,g2⟩:=J.1.ij J.2 rfl hh hB (λb B=>by
   simp at B;subst B;exact⟨ar _,by simp⟩)
 refine⟨(s.w.heap.size,xs),.value (.slice (some ⟨s.w.heap.size,0,none⟩) n n),_,_,?_,.inl rfl,Rd.val rfl,g1,g2,?_⟩
 ·simp[execOp,h,F,I,r,xs]
 ·have e:execOp a.eval o=(do pure (.value (<-Instr.makeSlice t (.int O n) (.int S n)))):=by simp[execOp,h,F,I]
  rw[e];refine dC ?_;intro e A;have hu:∀ u,(underlying t).run P u=.ok (.slice E) u:=λu=>by simp[underlying,m]
  have Q:∀ u,(typeInfo E).run P u=.ok f u:=λu=>by simp[typeInfo,L]
  have V:∀ u,(zeroValue E).run P u=.ok z u:=λu=>by simp[zeroValue,typeInfo,L,z4]
  have U:∀ u,(sizeOf E).run P u=.ok f.size u:=λu=>by simp[sizeOf,typeInfo,L]
  have wl:IntKind.i64.wrap (n:Int)=n:=by rw[IntKind.wrap_i64];omega
  have n1:¬(n:Int)<0:=by omega
  have n2:¬(281474976710656<(f.bytes:Int)*n):=by omega
  simp[Instr.makeSlice,hu,Q,U,asInt,asIntOf,wl,n1,n2] at A;rw[V] at A;simp only[Result.evThen_ok,(bM.newRow (P:=P)) _ _,ite_self] at A;unfold askRoom at A;split at A
  ·have:e=⟨.mark .noRoom,false,true⟩:=by simpa using A
   rw[this];exact .inl rfl
  ·simp at A
end
def IJ(k n:Nat)(es:Nat->List C):A->A
 |.vec 0 _ _ _=>.c (.sl false k n es)
 |a=>a
def Da(k n:Nat)(es:Nat->List C):E1->E1
 |.one a=>.one (IJ k n es a)
 |e=>e
def ya(k n:Nat)(es:Nat->List C):List E1->List E1
 |[]=>[]
 |a::r=>Da k n es a::ya k n es r
def IK(k n:Nat)(es:Nat->List C):D->D
 |.e x=>.e (Da k n es x)
 |.eD xs=>.eD (ya k n es xs)
 |.any=>.any
section
variable {σ σ':List ak}{s s':St}{k n g:Nat}{es:Nat->List C}{u:Value}
theorem Db(b:Rd s'.M u (.sl false k n es)){v:Value}{a:A}(h:mg g a=true)(r:eQ σ s v (IL u a)):eQ σ' s' v (IJ k n es a):=by
 cases a with
 |c x=>exact zP h r
 |any=>exact r
 |vec l k' n' es' =>
  cases l with
  |zero=>have:=Rd.ft r;subst this;exact b
  |succ l=>simp[mg,r8] at h
 |ptr=>simp[mg,r8] at h
 |ref=>simp[mg,r8] at h
 |bp=>simp[mg,r8] at h
theorem vN(b:Rd s'.M u (.sl false k n es)){v:Value}{x:E1}(h:pW g x=true)(r:jr σ s v (Dc u x)):jr σ' s' v (Da k n es x):=by
 cases x with
 |one a=>exact Db (σ:=σ) (s:=s) b h r
 |agg cs=>exact GR (x:=.agg cs) h r
theorem sG(b:Rd s'.M u (.sl false k n es)):∀ {vs:List Value}{cs:List E1},nx g cs=true->dX σ s vs (yb u cs)->dX σ' s' vs (ya k n es cs)
 |[],[],_,_=>trivial
 |[],_::_,_,r=>r.elim
 |_::_,[],_,r=>r.elim
 |v::vs,c::cs,h,r=>by
  simp only[nx] at h;cases a:pW g c with
  |false=>simp[a] at h
  |true=>simp only[a] at h;exact⟨vN (σ:=σ) (s:=s) b a r.1,sG b h r.2⟩
theorem Dd(a:Rd s'.M u (.sl false k n es)){v:Value}{d:D}(h:zS g d=true)(r:b5 σ s v (IM u d)):b5 σ' s' v (IK k n es d):=by
 cases d with
 |e x=>exact vN (σ:=σ) (s:=s) a h r
 |eD xs=>obtain⟨vs,c,b⟩:=r;exact⟨vs,c,sG (σ:=σ) (s:=s) a h b⟩
 |any=>trivial
end
theorem fb.GS{P:Program}{ι:Type}{X:Cx P}{f:FuncId}{args:List D}{e:D}{E:TypeId}{k n:Nat}{es:Nat->List C}{bf:ι->Mm}{xs:ι->List Value}(h:fb X f args [] (λi=>IM (Mn (bf i) n) e) (λi=>[.cQ (vH E k (bf i) n (xs i))]))(z:∀ i,zT k n es (xs i))(y:zS n e=true) :
  Ev X f args [] (IK k n es e) []:=by
 refine⟨h.1,λs vs hr hh S cs hS=>h.2 s vs hr hh S cs λi fr v s' hl ph j9 st=>?_⟩
 have p:s.β=[]:=fu hh.len;obtain⟨L,M',G,x,A,F,R,J⟩:=vH.II (σ:=[.cQ (vH E k (bf i) n (xs i))]) (lb:=0) rfl es (z i).rd s' j9;have c:s'.β.length=1:=j9.len;have m:s'.β=[L]:=by
  match t:s'.β with
  |[O]=>rw[t] at G;cases G;rfl
  |[]=>rw[t] at c;cases c
  |_::_::_=>rw[t] at c;simp at c
 let j:St:={ s' with β:=[],M:=M' }
 have q:∀ b∈L.bs,s.w.heap.size<=b:=λb d=>by
  rcases st.pT L (by rw[m];simp) b d with h1|⟨O,h1,_⟩
  ·exact h1
  ·rw[p] at h1;simp at h1
 have H:er s' j:=⟨rfl,x,λb d o=>A b (d L (by rw[m];simp)) o,F,λb d=>by
  rcases d with d|⟨L',a,_⟩
  ·exact .inl d
  ·simp[j] at a⟩
 refine .ghost H (hS fr v j (hl.mono x) (Dd (s':=j) J y ph) ?_ ?_)
 ·exact⟨F,rfl,λl B L' hB=>by simp at hB,λl l' L1 L2 h1=>by simp[j] at h1,λL' a=>by simp[j] at a,λb d=>⟨(j9.own b d).1,λL' a=>by simp[j] at a⟩⟩
 ·refine⟨st.size,st.ee,λb o v I=>x _ _ _ (st.mem _ _ _ I),λb d Q o=>?_,λL' a=>by simp[j] at a,λl B L' hB=>by simp at hB,st.os,st.tape,st.output,st.own⟩
  show M' b o=_;rw[A b (λr=>by have:=q b r;omega) o]
  exact st.gJ b d Q o
theorem pj{α:Type}{xs vs:List α}{a:Nat}(h:a+vs.length<=xs.length)(p:Nat):(xs.take a++vs++xs.drop (a+vs.length))[p]?=if a<=p/\p<a+vs.length then vs[p-a]? else xs[p]?:=by
 have b:(xs.take a).length=a:=by simp;omega
 split
 ·rename_i d
  rw[c9,cj (by omega),b,bS (by omega)]
 ·rename_i d
  rcases bC p a with c|c
  ·rw[c9,bS (by omega),dx,aq c]
  ·rw[c9,cj (by omega),b,cj (by omega),l6]
   congr 1;omega
theorem zT.dv{k n:Nat}{es es':Nat->List C}{xs vs:List Value}{new:List A}(h:zT k n es xs)(i j:Nat)(hi:i<n)(p:JF vs new)(r:j+new.length<=k)(v:∀ a,a<n->a≠i->es' a=es a)(hl:(es' i).length=k)
  (D:∀ (q:Nat) (c:C),(es' i)[q]?=some c->(j<=q/\q<j+new.length/\new[q-j]?=some (A.c c))∨(¬(j<=q/\q<j+new.length)/\(es i)[q]?=some c)):zT k n es' (xs.take (i*k+j)++vs++xs.drop (i*k+j+vs.length)):=by
 have w:i*k+k<=n*k:=by rw[<-kR];exact eb _ hi
 have y:=p.1;have x:=h.len;have d:i*k+j+vs.length<=xs.length:=by omega
 refine⟨by simp only[bc,List.length_take,kI];omega,λa b=>?_,λa b q c t=>?_⟩
 ·by_cases e:a=i
  ·subst e;exact hl
  ·rw[v a b e];exact h.wid a b
 ·rw[pj d]
  by_cases e:a=i
  ·subst e;rcases D q c t with⟨h1,h2,z⟩|⟨h1,h2⟩
   ·rw[aq (by omega),show a*k+q-(a*k+j)=q-j by omega]
    exact p.2 _ c z
   ·rw[an (by omega)];exact h.at' a b q c h2
  ·have f:(es a)[q]?=some c:=by rw[<-v a b e];exact t
   have B:q<k:=by rw[<-h.wid a b];exact(aE.1 f).1
   rw[an ?_]
   ·exact h.at' a b q c f
   ·rcases Nat.lt_or_gt_of_ne e with m|l
    ·have:a*k+k<=i*k:=by rw[<-kR];exact eb _ m
     omega
    ·have:i*k+k<=a*k:=by rw[<-kR];exact eb _ l
     omega
def uA(T:List (Nat×TI))(φ:Fr):List ResultVar->Option (List D)
 |[]=>some []
 |.tmp t::r=>match uA T φ r with
  |some q=>some (look φ t::q)
  |none=>none
 |.cell ad t::r=>match uA T φ r with
  |some q=>match look φ ad with
   |.e (.one (.c (.rp cs)))=>match aJ T t with
    |some i=>match ki i (cs.map A.c) with
     |some e=>some (.e e::q)
     |none=>none
    |none=>none
   |_=>none
  |none=>none
theorem uB{P:Program}{T:List (Nat×TI)}(R:bX P T){N:Nat}{σ:List ak}{s:St}{φ:Fr}{a:Act}(f:bg N σ s φ a):∀ {S:List ResultVar}{ds:List D},uA T φ S=some ds ->
  ∃ vs,bZ σ s vs ds/\∀ w,(∀ b o u,s.M b o=some u->w.cell? ⟨b,o,none⟩=some u)->(S.mapM (fz a)).run P w=Result.ok vs w/\∀ es,∀ e∈(S.mapM (fz a)).events P w es,e∈es∨∃ b o u,e=⟨.cell ⟨b,o,none⟩,false,false⟩/\s.M b o=some u
 |[],ds,h=>by cases h;exact⟨[],ab,λw _=>⟨by simp,λes e m=>.inl (by simpa using m)⟩⟩
 |.tmp t::r,ds,h=>by
  simp only[uA] at h;cases E:uA T φ r with
  |none=>simp[E] at h
  |some q =>
   simp[E] at h;subst h;obtain⟨vs,h1,V⟩:=uB R f E;refine⟨a.tmps.getD t undef::vs,⟨f.slot t,h1⟩,λw p=>?_⟩
   obtain⟨k1,k2⟩:=V w p;refine⟨by simp only[jw,aU,fz,cd,bj,k1],λes e m=>k2 es e ?_⟩
   simpa[jw,fz,k1] using m
 |.cell ad t::r,ds,h=>by
  simp only[uA] at h;cases E:uA T φ r with
  |none=>simp[E] at h
  |some q =>
   simp only[E] at h;have hs:=f.slot ad;generalize look φ ad=x at h hs;split at h
   case h_2=>cases h
   rename_i cs
   cases hi:aJ T t with
   |none=>simp[hi] at h
   |some i =>
    simp only[hi] at h;cases k:ki i (cs.map A.c) with
    |none=>simp[k] at h
    |some e0 =>
     simp[k] at h;subst h;obtain⟨vs,h1,V⟩:=uB R f E;have O:=eB hs;generalize Y:a.tmps.getD ad undef=vx at O;cases O
     rename_i b off g W GV
     let B:=(List.range cs.length).map g
     have J:cu σ s B (cs.map A.c):=by
      have key:∀ (n:Nat) (ds:List C),(∀ j c,ds[j]?=some c->Rd s.M (g (n+j)) c)->cu σ s ((List.range ds.length).map λj=>g (n+j)) (ds.map A.c):=by
       intro n ds
       induction ds generalizing n with
       |nil=>intro _;trivial
       |cons d ds ih =>
        intro hd;rw[fa,tU];refine⟨hd 0 d rfl,?_⟩;have:=ih (n+1) (λj c l=>by have:=hd (j+1) c (by simpa using l);rwa [show n+1+j=n+(j+1) by omega])
        simpa[Function.comp_def,iz,iB 1] using this
      have:=key 0 cs (by simpa using GV)
      simpa using this
     have z:∀ (j:Nat) (v:Value),B[j]?=some v->s.M b (off+j)=some v:=λj v l=>by
      simp only[B,kM] at l
      by_cases F:j<cs.length
      ·simp[F] at l;subst l;exact W j cs[j] (aj F)
      ·simp[F] at l
     let w0:World:={ s.w with heap:=s.w.heap }
     have Q:∃ v,jr σ s v e0/\∀ w,(∀ b o u,s.M b o=some u->w.cell? ⟨b,o,none⟩=some u)->(loadVar t ⟨b,off,none⟩).run P w=.ok v w:=by
      have Z:=R t i hi;cases ha:i.agg <;> simp only[ki,ha] at k
      ·cases G:en 0 (cs.map A.c) with
       |none=>simp[G] at k
       |some a0 =>
        simp[G] at k;subst k;obtain⟨v,hv,U⟩:=J.get (cT G);refine⟨v,U,λw p=>?_⟩
        have:=p _ _ _ (z 0 v hv);simp only[loadVar,aU,Z.gK,bj,ha];simp at this;simp[run_load,this]
      ·cases G:lk i.size (cs.map A.c) with
       |none=>simp[G] at k
       |some r0 =>
        simp[G] at k;subst k;obtain⟨q1,q2⟩:=kl G;have H:=J.take i.size;rw[<-q1] at H;have hl:(B.take i.size).length=i.size:=by rw[H.length,q2]
        refine⟨.agg (B.take i.size).toArray,⟨B.take i.size,rfl,H⟩,λw p=>?_⟩
        have I:=run_loadCells_list (P:=P) w ⟨b,off,none⟩ (B.take i.size) (λj v l=>by
         rw[cg];refine p _ _ _ (z j v ?_);rw[dx] at l;split at l
         ·exact l
         ·cases l)
        rw[hl] at I;simp only[loadVar,aU,Z.gK,bj,ha];simp[Z.run_sizeOf,I]
     obtain⟨v,Tf,L⟩:=Q;refine⟨v::vs,⟨Tf,h1⟩,λw p=>?_⟩
     obtain⟨k1,k2⟩:=V w p;have y:(fz a (.cell ad t))=loadVar t ⟨b,off,none⟩:=by
      simp[fz,Y,asAddr]
     refine⟨by simp only[jw,aU,y,L w p,cd,bj,k1],λes e m=>?_⟩
     rw[jw,y] at m;simp only[Sem.events_bind,L w p,Result.evThen_ok,k1,Sem.events_pure] at m;rcases k2 _ e m with m|m
     ·rcases x5 m with m|m
      ·exact .inl m
      ·obtain⟨j,l,rfl⟩:=gL (R t i hi) (w:=w) (n:=cs.length) (λj l=>⟨g j,p _ _ _ (W j cs[j] (aj l))⟩) (by have:=nC k;simpa using this) e m
       exact .inr ⟨b,off+j,g j,rfl,W j cs[j] (aj l)⟩
     ·exact .inr m
theorem vS.On{P:Program}{T:List (Nat×TI)}(i:bX P T){fn:Func}{φ:Fr}{ds:List D}{d:D}(h:uA T φ fn.results.toList=some ds)(hj:nB ds=some d):vS P fn φ d:=by
 intro N σ s a f;obtain⟨vs,h1,h2⟩:=uB i f h;refine⟨_,vR hj h1,λw k=>?_⟩
 obtain⟨k1,j⟩:=h2 w k;have e1:(fn.results.mapM (fz a)).run P w=Result.ok vs.toArray w:=by
  rw[qn];simp only[Sem.run_map,k1,bj]
 have e2:∀ es,∀ e∈(fn.results.mapM (fz a)).events P w es,e∈es∨∃ b o u,e=⟨.cell ⟨b,o,none⟩,false,false⟩/\s.M b o=some u:=by
  rw[qn];intro es e c;exact j es e (by simpa using c)
 constructor
 ·unfold results;rw[aU];refine(b8 (λr=>Result.andThen r _) (Eq.trans ?_ e1)).trans ?_
  ·congr 2
  ·simp
 ·intro e c;have g:e∈(fn.results.mapM (fz a)).events P w #[]:=by
   unfold results at c;rw[Sem.events_bind] at c
   change e∈((fn.results.mapM (fz a)).run P w).evThen ((fn.results.mapM (fz a)).events P w #[]) _ at c
   rw[e1] at c;simpa using c
  rcases e2 #[] e g with h|h
  ·simp at h
  ·exact h
section
variable {P:Program}{X:Cx P}{N:Nat}{K:List It}{φ:Fr}{σ:List ak}
def GW(T:List (Nat×TI))(a:List ResultVar)(ks:List Nat)(φ:Fr)(res:D):Option (List Prop) :=
 match uA T φ a with
 |some ds=>match nB ds with
  |some d=>match ux ks.length res with
   |true=>Dh d (iC ks res)
   |false=>none
  |none=>none
 |none=>none
theorem AK.pq{T:List (Nat×TI)}(i:bX P T){fn:Func}{c:Nat}{res:D}{σ':List ak}(ks:List Nat){ps:List Prop}(h:GW T fn.results.toList ks φ res=some ps)(e:aa ps)(f:iW ks σ=some σ')(b:jZ σ'=true)(l:dk ks=true)(k:∀ j,j<c->ks[j]?=some j) :
  AK X N (vT P fn c res σ') (.code .ret::K) .normal φ σ:=by
 refine AK.ret ⟨.inl rfl,ks,?_⟩;unfold GW at h;split at h
 ·rename_i ds Di
  split at h
  ·rename_i d g
   split at h
   ·rename_i a
    exact⟨d,ps,vS.On i Di g,h,e,a,f,b,l,k⟩
   ·cases h
  ·cases h
 ·cases h
theorem Ev.ko{f:FuncId}{fn:Func}{c:Code}{args:List D}{σ σ':List ak}{res:D}(d:P.funcs[f]?=some fn)(a:(fn.name== "runtime.NumGoroutine")=false)(e:fn.body=some c)(b:Nat.ble args.length fn.ntmps=true)
  (h:Fits args σ->AK X fn.ntmps (vT P fn σ.length res σ') [.code c] .normal (gC 0 args) σ):Ev X f args σ res σ':=by
 refine⟨⟨fn,d,a,by rw[e];rfl⟩,λs vs hr hh=>?_⟩
 have:=fb.JI (X:=X) (ι:=Unit) (σ':=λ_=>σ') (res:=λ_=>res) d a e (cY b) (AW.mono (AK.of_code (h ⟨s,vs,hr,hh⟩)) λ_ _ _ q=>⟨(),q⟩)
 exact this.Df.2 s vs hr hh
theorem aW.mk{fn:Func}{c:Nat}{res:D}{σ':List ak}(ks:List Nat){ps:List Prop}(h:uC fn.results.toList ks φ res=some ps)(e:aa ps)(f:iW ks σ=some σ')(b:jZ σ'=true)(k:dk ks=true)(i:∀ j,j<c->ks[j]?=some j):aW fn c res σ' .ret φ σ:=by
 refine⟨.inl rfl,ks,?_⟩;unfold uC at h;split at h
 ·rename_i ds Di
  split at h
  ·rename_i d g
   split at h
   ·rename_i a
    exact⟨ds,d,ps,Di,g,h,e,a,f,b,k,i⟩
   ·cases h
  ·cases h
 ·cases h
end
theorem Ap{α:Type}{l:Nat}{x:α}:∀ {ks:List Nat}{a r:List α},iW ks a=some r->l∉ks->iW ks (a.set l x)=some r
 |[],a,r,h,_=>h
 |k::ks,a,r,h,c=>by
  simp only[dy,not_or] at c;simp only[iW,dg] at h ⊢;rw[b7 c.1];cases d:a[k]? with
  |none=>simp[d] at h
  |some y =>
   simp only[d] at h ⊢;cases b:iW ks a with
   |none=>simp[b] at h
   |some q=>rw[Ap b c.2];simp only[b] at h;exact h
def Nc(T:List (Nat×TI))(fn:Func)(a:Nat)(res:D)(σ':List ak):Post:=λe φ σ1 =>
 (e=.ret∨e=.normal)/\∃ ks l E cs t ty it ps,fn.results.toList=[.cell t ty]/\aJ T ty=some it/\it.agg=true/\cs.length=it.size/\look φ t=.e (.one (.ptr l 0))/\σ1[l]?=some (.cells E cs)/\l∉ks /\
  Dh (.e (.agg cs)) (iC ks res)=some ps/\aa ps/\ux ks.length res=true/\iW ks σ1=some σ'/\jZ σ'=true/\dk ks=true/\(∀ j,j<a->ks[j]?=some j)
set_option maxHeartbeats 1000000 in
theorem fb.Kk{P:Program}{ι:Type}{X:Cx P}{T:List (Nat×TI)}(hT:bX P T){f:FuncId}{fn:Func}{c:Code}{args:List D}{σ:List ak}{σ':ι->List ak}{res:ι->D}(hf:P.funcs[f]?=some fn)(J9:(fn.name== "runtime.NumGoroutine")=false)(q:fn.body=some c)(hlen:args.length<=fn.ntmps)
  (h:∀ s a,bg fn.ntmps σ s (gC 0 args) a->ag σ s->∀ (b:Frame) (k:List Item) (cs:List Frame) (S:Goroutine->St->Prop),b.kind≠.early->b.roundOf=none ->
  (∀ e φ' σ1 s' a',(∃ j,Nc T fn σ.length (res j) (σ' j) e φ' σ1)->bg fn.ntmps σ1 s' φ' a'->ag σ1 s'->bq σ s σ1 s'->ends X S b k cs e a' s')->db X S (G (b.aT a (.code c::k)) cs) s):fb X f args σ res σ':=by
 refine⟨⟨fn,hf,J9,by rw[q];rfl⟩,λs vs hr hh S cs hS=>?_⟩
 obtain⟨hl,hg⟩:=bZ.get hr
 let b:Frame:={ fn:=f,tmps:=#[],todo:=[],defers:=[],mode:=.run,kind:=.normal,roundOf:=none }
 have J:Frame.enter P f vs.toArray .normal=b.aT { tmps:=vs.toArray++Array.replicate (fn.ntmps-vs.toArray.size) undef,defers:=[] } [.code c]:=by
  simp[Frame.enter,Frame.aT,hf,q,b]
 rw[J];refine h s { tmps:=vs.toArray++Array.replicate (fn.ntmps-vs.toArray.size) undef,defers:=[] } ⟨by simp;omega,⟨[],ab⟩,λt=>?_⟩ hh b [] cs S (by simp[b]) rfl ?_
 ·rw[kY];simp only[kS,aV,jy];have:=hg t;rcases bC t vs.length with oR|LI
  ·have e:(vs.toArray++Array.replicate (fn.ntmps-vs.toArray.size) undef).getD t undef=(vs[t]?).getD undef:=by
    simp only[bA];rw[tQ (by simpa using oR)]
    simp
   rw[e];exact this
  ·rw[iL (by omega)]
   trivial
 ·rintro e φ' σ0 s0 a1 ⟨jj,he,ks,l,E,R4,t,ty,it,ps,q1,q2,q3,q4,q5,q6,q7,h3,h4,h5,Ud,P6,h8,h9⟩ f0 Z PM;obtain⟨h7,Ue⟩:=sU P6;have F:=f0.slot t;rw[q5] at F;obtain⟨_,L,bb,r,Uf,Qc⟩:=F;obtain⟨b2,d,Ot,W,R5,hM⟩:=Z.box l _ L q6 r;subst Ot;cases Uf
  let M':Mem:=λp o=>if p=bb then d[o]? else s0.M p o
  have V:∀ o v,d[o]?=some v->s0.w.cell? ⟨bb,o,none⟩=some v:=λo v ho=>by simpa[World.cell?,W] using ho
  have LJ:∀ p o v,s0.M p o=some v->M' p o=some v:=λp o v H=>by
   by_cases e:p=bb
   ·subst e;rw[hM] at H;cases H
   ·simp only[M',e,aM];exact H
  have R6:∀ p o v,M' p o=some v->s0.w.cell? ⟨p,o,none⟩=some v:=λp o v H=>by
   by_cases e:p=bb
   ·subst e;simp only[M',aV] at H;exact V o v H
   ·simp only[M',e,aM] at H;exact Z.mem p o v H
  obtain⟨h',K⟩:=Z.iP (M':=M') (w':=s0.w) (B':=.dead) (L':=⟨.pointer (some ⟨bb,0,none⟩),[]⟩) q6 r rfl (ar _) (λ_ _ _=>rfl) (λp _ g o=>by
   simp at g;simp only[M',g,aM]) LJ R6 (by simp) rfl rfl rfl ab
  have OG:er s0 ⟨s0.β.set l ⟨.pointer (some ⟨bb,0,none⟩),[]⟩,M',s0.w,s0.own⟩:=⟨rfl,LJ,λp g o=>by
   have:p≠bb:=by rintro rfl;exact g _ (aG r) (by simp)
   simp only[M',this,aM],R6,λp g=>by
   rcases g with g|⟨L',U,g⟩
   ·exact .inl g
   ·rcases qm U with U|rfl
    ·exact .inr ⟨L',U,g⟩
    ·simp at g⟩
  have f':bg fn.ntmps (σ0.set l .dead) ⟨s0.β.set l ⟨.pointer (some ⟨bb,0,none⟩),[]⟩,M',s0.w,s0.own⟩ φ' a1:=⟨f0.size,f0.defers.imp λ_ h1=>h1.mono K.ext,λu=>(f0.slot u).mono K.ext Z.len⟩
  have h6:=Ap (x:=ak.dead) Ud q7;have Qd:cu (σ0.set l .dead) ⟨s0.β.set l ⟨.pointer (some ⟨bb,0,none⟩),[]⟩,M',s0.w,s0.own⟩ d R4:=R5.mono K.ext Z.len;have st:=PM.trans (K.mG Z);have N:∀ w,(∀ b o u,M' b o=some u->w.cell? ⟨b,o,none⟩=some u)->(results fn a1.tmps).run P w=.ok (.agg d.toArray) w/\∀ e∈(results fn a1.tmps).events P w #[],∃ b o u,e=⟨.cell ⟨b,o,none⟩,false,false⟩/\M' b o=some u:=by
   intro w hw;have Y:=hT ty it q2;have R7:d.length=it.size:=by rw[R5.length,q4]
   have Nd:∀ j v,d[j]?=some v->w.cell? ⟨bb,0+j,none⟩=some v:=λj v hj=>hw _ _ _ (by simp only[M',aV,aw];exact hj)
   have Ov:=run_loadCells_list (P:=P) w ⟨bb,0,none⟩ d (λj v hj=>by rw[cg];exact Nd j v hj)
   rw[R7] at Ov;have Gz:(loadVar ty ⟨bb,0,none⟩).run P w=.ok (.agg d.toArray) w:=by
    simp only[loadVar,aU,Y.gK,bj,q3];simp[Y.run_sizeOf,Ov]
   have R8:fn.results=#[.cell t ty]:=by apply gI;simpa using q1
   have O:asAddr (a1.tmps[t]?.getD undef)=(pure ⟨bb,0,none⟩:Sem Addr):=by rw[<-bA,Qc];rfl
   refine⟨by simp[results,R8,O,Gz],λe he=>?_⟩
   have Gu:e∈(loadVar ty ⟨bb,0,none⟩).events P w #[]:=by
    simpa[results,R8,O,Gz] using he
   obtain⟨j,hj,rfl⟩:=gL Y (w:=w) (n:=d.length) (λj hj=>⟨_,Nd j d[j] (aj hj)⟩) (by rw[q3,R7];simp) e Gu
   exact⟨bb,0+j,d[j],rfl,by simp only[M',aV,aw];exact aj hj⟩
  have fin:∀ (fr:Frame) s2,aX (⟨s0.β.set l ⟨.pointer (some ⟨bb,0,none⟩),[]⟩,M',s0.w,s0.own⟩:St) s2->fr.fn=f->fr.tmps=a1.tmps->fr.defers=a1.defers->fr.mode=.returning->fr.kind=.normal->db X S (G fr cs) s2:=by
   intro fr s2 nQ e1 e2 e3 e4 e5;have f2:=f'.rely nQ h';have A:=h'.rely nQ;have i:=st.trans nQ.stepW;have r2:b5 (σ0.set l .dead) s2 (.agg d.toArray) (.e (.agg R4)):=⟨d,rfl,Qd.mono nQ.stepW.ext h'.len⟩;obtain⟨m,I⟩:=ur (l':=s2.β) h6 A.len;have r4:=(qO h3 h4 r2).sub h6 I h5;obtain⟨c1,c2⟩:=fj h6;obtain⟨d1,d2⟩:=fj I;have R:∀ L∈m,L∈s2.β:=uz I;have LW:ag (σ' jj) { s2 with β:=m }:=by
    obtain⟨g1,_⟩:=A.sub h6 I h7 h8;refine⟨g1.mem,g1.len,λj B L Q r=>?_,g1.eE,g1.lt,λb q=>⟨(A.own b q).1,λL r=>(A.own b q).2 L (R L r)⟩⟩
    exact dq.plain (σ:=σ' jj) (s:={ s2 with β:=m,own:=uy s2 m }) (s':={ s2 with β:=m }) rfl rfl (hJ h7 B (aG Q)) (g1.box j B L Q r)
   have Hl:bq σ s (σ' jj) { s2 with β:=m }:=by
    refine⟨i.size,i.ee,i.mem,i.gJ,λL r b q=>i.pT _ (R L r) b q,λl B L Q r=>?_,i.os,i.tape,i.output,i.own⟩
    have hl:l<σ.length:=(aE.1 Q).1;obtain⟨B',L',p1,p2,p3⟩:=i.box l B L Q r;obtain⟨x,x1,x2⟩:=c2 l l (h9 l hl);obtain⟨y,y1,y2⟩:=d2 l l (h9 l hl);rw[p1] at x2;cases x2;rw[p2] at y2;cases y2;exact⟨B',L',x1,y1,p3⟩
   obtain⟨ls,Ka⟩:=f2.defers;refine mY ls fr s2 _ A.jF (by intro B Q;simp only[nn] at Q;obtain⟨_,_,rfl⟩:=Q;rfl) e4 (by rw[e3];exact Ka.taken A) λs3 z=>?_
   have C:aX { s2 with β:=m } { s3 with β:=m }:=by
    refine⟨rfl,z.M,z.own,z.size,λb q=>z.ee b (q.imp id ?_),z.mem,z.os,z.tape,z.output⟩
    rintro⟨L,r,q⟩;obtain⟨j,hj,rfl⟩:=dH r;have R9:j<ks.length:=by rw[<-d1];exact hj
    obtain⟨y,y1,y2⟩:=d2 j _ (aj R9);obtain⟨x,x1,x2⟩:=c2 j _ (aj R9);rw[aj hj] at y1;cases y1;refine⟨_,_,y2,λhc=>?_,q⟩
    rw[Ka.sS _ hc] at x2;cases x2;exact kq Ue _ (aG x1) rfl
   have hG:er s3 { s3 with β:=m }:=⟨rfl,λ_ _ _ h=>h,λ_ _ _=>rfl,λb o v H=>z.mem b o v (by rw[<-z.M];exact H),λb q=>q.imp id λ⟨L,r,q⟩=>⟨L,by rw[z.β];exact R L r,q⟩⟩
   have OL:s2.M=M':=nQ.M;refine .ghost hG (hS jj _ (.agg d.toArray) _ ⟨e1,e4,rfl,e5,fn,by show P.funcs[fr.fn]?=_;rw[e1];exact hf,λw hw=>?_⟩ (r4.mono C.stepW.ext LW.len) (LW.rely C) (Hl.trans C.stepW))
   show (results fn fr.tmps).run P w=_/\∀ e∈(results fn fr.tmps).events P w #[],_;rw[e2];have Sa:∀ b o u,M' b o=some u->w.cell? ⟨b,o,none⟩=some u:=λb o u h=>hw b o u (by show s3.M b o=some u;rw[z.M,OL];exact h)
   refine⟨(N w Sa).1,λe he=>?_⟩
   obtain⟨b,o,u,q1,q2⟩:=(N w Sa).2 e he;exact⟨b,o,u,q1,by show s3.M b o=some u;rw[z.M,OL];exact q2⟩
  rcases he with rfl|rfl
  ·intro pre;exact .ghost OG (.ctl h' rfl (λ_=>x6 rfl) λs2 nQ=>fin _ s2 nQ rfl rfl (gH _) rfl rfl)
  ·exact .ghost OG (.ctl h' rfl (λ_=>x7 rfl) λs2 nQ=>fin _ s2 nQ rfl rfl (gH _) rfl rfl)
theorem fb.ko{P:Program}{ι:Type}{X:Cx P}{T:List (Nat×TI)}(m:bX P T){f:FuncId}{fn:Func}{c:Code}{args:List D}{σ:List ak}{σ':ι->List ak}{res:ι->D}(l:P.funcs[f]?=some fn)(d:(fn.name== "runtime.NumGoroutine")=false)(i:fn.body=some c)(g:Nat.ble args.length fn.ntmps=true)
  (h:Fits args σ->AK X fn.ntmps (λe φ σ1=>∃ j,Nc T fn σ.length (res j) (σ' j) e φ σ1) [.code c] .normal (gC 0 args) σ):fb X f args σ res σ':=by
 refine⟨⟨fn,l,d,by rw[i];rfl⟩,λs0 vs hr Sb=>?_⟩
 have:=fb.Kk (X:=X) (σ':=σ') (res:=res) m l d i (cY g) λs a f hh b k cs S o _ n=>(show AW X fn.ntmps c _ (gC 0 args) σ from AK.of_code (h ⟨s0,vs,hr,Sb⟩)) s a f hh b k cs S o n
 exact this.2 s0 vs hr Sb
theorem cu.set{σ:List ak}{s:St}{a:A}{v:Value}:∀ {vs:List Value}{cs:List A}{j:Nat},cu σ s vs cs->vs[j]?=some v->eQ σ s v a->cu σ s vs (cs.set j a)
 |[],[],_,_,h,_=>by simp at h
 |[],_::_,_,h,_,_=>h.elim
 |_::_,[],_,h,_,_=>h.elim
 |u::vs,c::cs,0,h,b,d=>by
  simp at b;subst b;exact⟨d,h.2⟩
 |u::vs,c::cs,j+1,h,b,d=>⟨h.1,cu.set h.2 (by simpa using b) d⟩
section
variable {P:Program}{X:Cx P}{N:Nat}{Qf:Post}{K:List It}{φ:Fr}{σ:List ak}{c:Code}
theorem AK.A6(l j:Nat)(E k:Nat)(es':Nat->List C){E0:TypeId}{cs:List A}{k':Nat}{x:Nat->List C}(hl:en l σ=some (.cells E0 cs))(hj:en j cs=some (.c (.sl true k' 0 x)))
  (kk:AK X N Qf (.code c::K) .normal φ ((σ++[ak.vec E k 0 es']).set l (.cells E0 (cs.set j (.vec σ.length k 0 es'))))):AK X N Qf (.code c::K) .normal φ σ:=by
 refine AK.ghost (λs a D hh=>?_) kk
 have y:=cT hl;have U:=cT hj;have d:l<σ.length:=(aE.1 y).1;have f:l<s.β.length:=by rw[hh.len];exact d
 have t:=aj f;generalize s.β[l]=L at t;obtain⟨b,vs,z,g,n,Q⟩:=hh.box l _ L y t;obtain⟨v,O,R⟩:=n.get U;have h1:Rd s.M v (.sl true k 0 es'):=(Rd.uh (k:=k') (k':=k) (.inr rfl) R).x4 λi hi=>by omega
 have G:dq (σ++[ak.vec E k 0 es']) { s with β:=s.β++[⟨v,[]⟩] } (.vec E k 0 es') ⟨v,[]⟩:=⟨h1.loose,.inl ⟨⟨rfl,rfl⟩,h1⟩⟩;obtain⟨g1,g2⟩:=hh.ij (.refl _ _) rfl hh G (by simp)
 have r:(σ++[ak.vec E k 0 es'])[l]?=some (.cells E0 cs):=by rw[bS d];exact y
 have m:(s.β++[(⟨v,[]⟩:Loc)])[l]?=some L:=by rw[bS f];exact t
 have p:(s.β++[(⟨v,[]⟩:Loc)]).set l L=s.β++[⟨v,[]⟩]:=by
  apply lB
  intro i
  by_cases e:l=i
  ·subst e;rw[br (by simp;omega),m]
  ·rw[b7 e]
 have F:fW (.cells E0 cs) L (.cells E0 (cs.set j (.vec σ.length k 0 es'))) L:=rfl;have J:σ.length≠l:=by omega
 have o:dq ((σ++[ak.vec E k 0 es']).set l (.cells E0 (cs.set j (.vec σ.length k 0 es')))) ⟨(s.β++[(⟨v,[]⟩:Loc)]).set l L,s.M,s.w,s.own⟩ (.cells E0 (cs.set j (.vec σ.length k 0 es'))) L:=by
  rw[p];refine⟨b,vs,z,g,?_,Q⟩;have ex:Ext (σ++[ak.vec E k 0 es']) { s with β:=s.β++[⟨v,[]⟩] } ((σ++[ak.vec E k 0 es']).set l (.cells E0 (cs.set j (.vec σ.length k 0 es')))) { s with β:=s.β++[⟨v,[]⟩] }:=by
   refine⟨λ_ _ _ h=>h,λi B L' ir eY=>?_⟩
   by_cases e:l=i
   ·subst e;rw[r] at ir;cases ir;exact⟨_,L',br (by simp;omega),eY,rfl⟩
   ·exact⟨B,L',by rw[b7 e];exact ir,eY,.refl _ _⟩
  have q:cu (σ++[ak.vec E k 0 es']) { s with β:=s.β++[⟨v,[]⟩] } vs cs:=n.mono g2.ext hh.len;refine cu.set (q.mono ex g1.len) O ?_;refine⟨h1.loose,by simp,λV Y W I h=>?_⟩
  rw[b7 (by omega),cj (by omega),Nat.sub_self] at h
  cases h;refine⟨ar _,λ_=>⟨⟨v,[]⟩,?_,rfl⟩⟩
  simp[<-hh.len]
 obtain⟨T,S⟩:=g1.iP (M':=s.M) (w':=s.w) (L':=L) r m F (ar _) (λ_ _ _=>rfl) (λ_ _ _ _=>rfl) (λ_ _ _ h=>h) hh.mem (λb H=>⟨.inl H,hh.lt L (aG t) b H⟩) rfl rfl rfl o
 have st:=g2.trans S;exact⟨⟨(s.β++[(⟨v,[]⟩:Loc)]).set l L,s.M,s.w,s.own⟩,rfl,⟨D.size,D.defers.imp λ_ h1=>h1.mono st.ext,λu=>(D.slot u).mono st.ext hh.len⟩,T,st⟩
end
section
variable {P:Program}{X:Cx P}{N:Nat}{Qf:Post}{K:List It}{φ:Fr}{σ:List ak}{c:Code}
theorem Hu{s:St}{E k k':Nat}{es d:Nat->List C}{v:Value}{σ':List ak}{β:List Loc}{l:Nat}(i:Rd s.M v (.sl true k' 0 d))(f:σ'[l]?=some (.buf E k 0 es))(e:β[l]?=some ⟨.slice none 0 0,[]⟩):eQ σ' { s with β:=β } v (.bp l (.sl 0 k 0 0)):=by
 obtain⟨a,cap,vs,g,_,_,b,_,_⟩:=i.flat;have:=b rfl;subst this;refine⟨.slice none 0 0,⟨a,none,0,0,g,by omega,rfl,by omega,rfl,λh=>absurd h (by omega)⟩,(aE.1 f).1,λp o m j h=>?_⟩
 rw[f] at h;cases h;exact⟨ar _,λ_=>⟨_,e,rfl⟩⟩
theorem AK.Ni(t:Nat)(E k:Nat)(es':Nat->List C){k':Nat}{d:Nat->List C}(h:look φ t=.e (.one (.c (.sl true k' 0 d))))
  (kk:AK X N Qf (.code c::K) .normal ((t,.e (.one (.bp σ.length (.sl 0 k 0 0))))::φ) (σ++[.buf E k 0 es'])):AK X N Qf (.code c::K) .normal φ σ:=by
 refine AK.ghost (λs a b hh=>?_) kk
 have f:=b.slot t;rw[h] at f;obtain⟨g1,g2⟩:=hh.ij (B:=.buf E k 0 es') (L:=⟨.slice none 0 0,[]⟩) (.refl _ _) rfl hh (.inl ⟨rfl,rfl⟩) (by simp)
 refine⟨{ s with β:=s.β++[⟨.slice none 0 0,[]⟩] },rfl,⟨b.size,b.defers.imp λ_ h1=>h1.mono g2.ext,λu=>?_⟩,g1,g2⟩
 simp only[look];cases g:Nat.beq t u with
 |false=>exact(b.slot u).mono g2.ext hh.len
 |true =>
  have e:=bk g;subst e;exact Hu (E:=E) (es:=es') (eB f) (by simp) (by simp[<-hh.len])
end
def BC:Nat->(Nat->List C)->Nat->List C
 |0,es=>es
 |o+1,es=>ou (o+1) es
theorem Au(o:Nat)(es:Nat->List C)(i:Nat):BC o es i=es (o+i):=by cases o <;> simp[BC,ou]
def uY(l k n:Nat)(es:Nat->List C)(a:A):Option (A×List Prop):=match Bb l a with
 |true=>some (a,[])
 |false=>match a with
  |.bp l' (.sl g k' o m)=>match Nat.beq l' l,Nat.beq k' k with
   |true,true=>some (.c (.sl false k m (BC o es)),[g=n,o+m<=n])
   |_,_=>none
  |_=>none
def uZ(l k n:Nat)(es:Nat->List C):List A->Option (List A×List Prop)
 |[]=>some ([],[])
 |a::r=>match uY l k n es a with
  |some (a',p)=>match uZ l k n es r with
   |some (r',q)=>some (a'::r',iZ p q)
   |none=>none
  |none=>none
def ra(l k n:Nat)(es:Nat->List C):E1->Option (E1×List Prop)
 |.one a=>match uY l k n es a with|some (a,p)=>some (.one a,p)|none=>none
 |.agg cs=>match uZ l k n es cs with|some (cs,p)=>some (.agg cs,p)|none=>none
def qd(l k n:Nat)(es:Nat->List C):List E1->Option (List E1×List Prop)
 |[]=>some ([],[])
 |a::r=>match ra l k n es a with
  |some (a',p)=>match qd l k n es r with
   |some (r',q)=>some (a'::r',iZ p q)
   |none=>none
  |none=>none
def rb(l k n:Nat)(es:Nat->List C):D->Option (D×List Prop)
 |.e x=>match ra l k n es x with|some (x,p)=>some (.e x,p)|none=>none
 |.eD xs=>match qd l k n es xs with|some (xs,p)=>some (.eD xs,p)|none=>none
 |.any=>some (.any,[])
section
variable {σ1:List ak}{s s2:St}{E k n:Nat}{es:Nat->List C}
structure je (σ1:List ak)(E k n:Nat)(es:Nat->List C)(s s2:St):Prop where
 ee:∀ v a,eQ (σ1++[.buf E k n es]) s v a->Bb σ1.length a=true->eQ σ1 s2 v a
 GS:∀ v k' o m,eQ (σ1++[.buf E k n es]) s v (.bp σ1.length (.sl n k' o m))->k'=k->o+m<=n->Rd s2.M v (.sl false k m (BC o es))
theorem je.a(h:je σ1 E k n es s s2){v:Value}{a a':A}{ps:List Prop}(b:uY σ1.length k n es a=some (a',ps))(e:aa ps)(r:eQ (σ1++[.buf E k n es]) s v a):eQ σ1 s2 v a':=by
 unfold uY at b;split at b
 ·rename_i d;cases b;exact h.ee v a r d
 ·split at b
  ·rename_i l' g k' o m _
   split at b
   ·rename_i e1 e2
    cases b;have e1:=bk e1;have e2:=bk e2;subst e1 e2;obtain⟨rfl,h2⟩:g=n/\o+m<=n:=e;exact h.GS v _ _ _ r rfl h2
   ·cases b
  ·cases b
theorem je.l(h:je σ1 E k n es s s2):∀ {vs:List Value}{cs lN:List A}{ps:List Prop},uZ σ1.length k n es cs=some (lN,ps)->aa ps->cu (σ1++[.buf E k n es]) s vs cs->cu σ1 s2 vs lN
 |[],[],_,_,b,_,_=>by cases b;trivial
 |[],_::_,_,_,_,_,r=>r.elim
 |_::_,[],_,_,_,_,r=>r.elim
 |v::vs,c::cs,lN,ps,b,d,r=>by
  simp only[uZ] at b;split at b
  ·rename_i a' p h1
   split at b
   ·rename_i r' q h2
    cases b;rw[aa.cat] at d;exact⟨h.a h1 d.1 r.1,h.l h2 d.2 r.2⟩
   ·cases b
  ·cases b
theorem je.e(h:je σ1 E k n es s s2){v:Value}{x f:E1}{ps:List Prop}(b:ra σ1.length k n es x=some (f,ps))(d:aa ps)(r:jr (σ1++[.buf E k n es]) s v x):jr σ1 s2 v f:=by
 cases x with
 |one a =>
  simp only[ra] at b;split at b
  ·rename_i a' p h1;cases b;exact h.a h1 d r
  ·cases b
 |agg cs =>
  simp only[ra] at b;split at b
  ·rename_i a' p h1;cases b
   obtain⟨vs,g,i⟩:=r;exact⟨vs,g,h.l h1 d i⟩
  ·cases b
theorem je.es'(h:je σ1 E k n es s s2):∀ {vs:List Value}{cs lN:List E1}{ps:List Prop},qd σ1.length k n es cs=some (lN,ps)->aa ps->dX (σ1++[.buf E k n es]) s vs cs->dX σ1 s2 vs lN
 |[],[],_,_,a,_,_=>by cases a;trivial
 |[],_::_,_,_,_,_,r=>r.elim
 |_::_,[],_,_,_,_,r=>r.elim
 |v::vs,c::cs,lN,ps,a,b,r=>by
  simp only[qd] at a;split at a
  ·rename_i a' p h1
   split at a
   ·rename_i r' q h2
    cases a;rw[aa.cat] at b;exact⟨h.e h1 b.1 r.1,h.es' h2 b.2 r.2⟩
   ·cases a
  ·cases a
theorem je.d(h:je σ1 E k n es s s2){v:Value}{x f:D}{ps:List Prop}(a:rb σ1.length k n es x=some (f,ps))(b:aa ps)(r:b5 (σ1++[.buf E k n es]) s v x):b5 σ1 s2 v f:=by
 cases x with
 |e x =>
  simp only[rb] at a;split at a
  ·rename_i a' p h1;cases a;exact h.e h1 b r
  ·cases a
 |eD xs =>
  simp only[rb] at a;split at a
  ·rename_i a' p h1;cases a
   obtain⟨vs,g,i⟩:=r;exact⟨vs,g,h.es' h1 b i⟩
  ·cases a
 |any=>cases a;trivial
theorem ag.GS(hh:ag (σ1++[.buf E k n es]) s)(I:uS σ1.length σ1=true) :
  ∃ s2:St,ag σ1 s2/\er s s2/\je σ1 E k n es s s2/\∀ {q:List ak} {s0:St},bq q s0 (σ1++[.buf E k n es]) s->q.length<=σ1.length->bq q s0 σ1 s2:=by
 have G:(σ1++[ak.buf E k n es])[σ1.length]?=some (.buf E k n es):=by simp
 have Y:s.β.length=σ1.length+1:=by rw[hh.len];simp
 have z:s.β[σ1.length]?=some s.β[σ1.length]:=aj (by omega)
 generalize s.β[σ1.length]=L at z;have A:=hh.box _ _ L G z;obtain⟨M',S,R,U,Z⟩:∃ M':Mem,(∀ b o v,s.M b o=some v->M' b o=some v)/\(∀ b,b∉L.bs->∀ o,M' b o=s.M b o)/\(∀ b o v,M' b o=some v->s.w.cell? ⟨b,o,none⟩=some v) /\
   (∀ v k' o m,eQ (σ1++[.buf E k n es]) s v (.bp σ1.length (.sl n k' o m))->k'=k->o+m<=n->Rd M' v (.sl false k m (BC o es))):=by
  rcases A with⟨rfl,rfl⟩|⟨b,c0,vs,zs,rfl,hw,xZ,RA,L5,Q,hM⟩
  ·refine⟨s.M,λ_ _ _ h=>h,λ_ _ _=>rfl,hh.mem,λv k' o m r e y=>?_⟩
   obtain⟨lv,⟨a,a0,cap,c0,f,h1,h2,h3,x,V⟩,_,J⟩:=r;obtain⟨L',d,g⟩:=(J _ _ _ _ G).2 rfl;rw[z] at d;cases d;rw[x] at g;cases g;have:cap=0:=by omega
   subst this;have:m=0:=by omega
   subst this;rw[f];exact Rd.iS
  ·let M':Mem:=λl o=>if l=b then vs[o]? else s.M l o
   have T:∀ l o v,s.M l o=some v->M' l o=some v:=λl o v f=>by
    by_cases e:l=b
    ·subst e;rw[hM] at f;cases f
    ·simp only[M',e,aM];exact f
   refine⟨M',T,λl F o=>?_,λl o v f=>?_,λv k' o m r e y=>?_⟩
   ·simp at F;simp only[M',F,aM]
   ·by_cases e:l=b
    ·subst e;simp only[M',aV] at f;simp only[World.cell?,hw];have:o<vs.length:=(aE.1 f).1;simpa[bS this] using f
    ·simp only[M',e,aM] at f;exact hh.mem l o v f
   ·subst e;obtain⟨lv,⟨a,a0,cap,c1,f,h1,h2,h3,x,V⟩,_,J⟩:=r;obtain⟨L',d,g⟩:=(J _ _ _ _ G).2 rfl;rw[z] at d;cases d;rw[x] at g;cases g;rw[f];have t:∀ i,i<m->∀ j c,(BC o es i)[j]?=some c->∃ u,vs[(o+i)*k'+j]?=some u/\Rd s.M u c:=λi hi j c hj=>by
     rw[Au] at hj;exact Q.rd (o+i) (by omega) j c hj
    refine .sl b (o*k') (λi j=>(vs[(o+i)*k'+j]?).getD undef) h1 (by omega) (by simp) (λi hi=>by rw[Au];exact Q.width _ (by omega)) (λhm=>?_) (λi hi j c hj=>?_) (λi hi j c hj=>?_)
    ·obtain⟨b1,e1,e2⟩:=V (by omega)
     cases e1;exact e2
    ·obtain⟨u,H,_⟩:=t i hi j c hj;simp only[M',aV];rw[show o*k'+i*k'+j=(o+i)*k'+j by rw[ez],H]
     rfl
    ·obtain⟨u,H,u2⟩:=t i hi j c hj;rw[H];exact u2.mono T
 have B:(σ1++[ak.buf E k n es]).set σ1.length .dead=σ1++[.dead]:=by simp
 obtain⟨W,O⟩:=hh.iP (M':=M') (w':=s.w) (B':=.dead) (L':=⟨L.v,[]⟩) G z ab (ar _) (λ_ _ _=>rfl) (λb _ p o=>R b p o) S U (by simp) rfl rfl rfl ab
 rw[B] at W O;have q3:=W.drop (rest:=[.dead]) I;refine⟨_,q3,⟨rfl,S,λb p o=>R b (p L (aG z)) o,U,λb p=>?_⟩,⟨λv a r D=>?_,λv k' o m r e y=>Z v k' o m r e y⟩,λ{q s0} st hle=>(st.trans (O.mG hh)).drop (rest:=[.dead]) hle⟩
 ·rcases p with p|⟨L',d,p⟩
  ·exact .inl p
  ·have:=jU d;rcases qm this with h|rfl
   ·exact .inr ⟨L',h,p⟩
   ·simp at p
 ·exact(r.mono O.ext hh.len).drop (rest:=[.dead]) D
end
theorem fb.lW{P:Program}{ι:Type}{X:Cx P}{f:FuncId}{args:List D}{σ:List ak}{res res':ι->D}{σ1:ι->List ak}{E k:Nat}{n:ι->Nat}{es:ι->Nat->List C}(h:fb X f args σ res (λi=>σ1 i++[.buf E k (n i) (es i)]))
  {ps:ι->List Prop} (e:∀ i,rb (σ1 i).length k (n i) (es i) (res i)=some (res' i,ps i)) (g:∀ i,aa (ps i)) (b:∀ i,uS (σ1 i).length (σ1 i)=true) (a:∀ i,σ.length<=(σ1 i).length):fb X f args σ res' σ1:=by
 refine⟨h.1,λs vs hr hh S cs hS=>h.2 s vs hr hh S cs λi fr v s' hl ph j9 st=>?_⟩
 obtain⟨s2,c1,c2,c3,c4⟩:=j9.GS (b i);exact .ghost c2 (hS i fr v s2 (hl.mono c2.mem) (c3.d (e i) (g i) ph) c1 (c4 st (a i)))
theorem Ev.lW{P:Program}{X:Cx P}{f:FuncId}{args:List D}{σ:List ak}{res res':D}{σ1:List ak}{E k n:Nat}{es:Nat->List C}(h:Ev X f args σ res (σ1++[.buf E k n es]))
  {ps:List Prop} (d:rb σ1.length k n es res=some (res',ps)) (e:aa ps) (b:uS σ1.length σ1=true) (a:σ.length<=σ1.length):Ev X f args σ res' σ1 :=
 (fb.lW (ι:=Unit) h.Mo (λ_=>d) (λ_=>e) (λ_=>b) (λ_=>a)).Df
theorem Flat.O3{M:Mem}{k n q m:Nat}{es LO:Nat->List C}{vs kX:List Value}(h:Flat M k n es vs)(b:Flat M k m LO kX)(g:q+m<=n) :
  Flat M k n (λi=>if q<=i/\i<q+m then LO (i-q) else es i) (vs.take (q*k)++kX++vs.drop (q*k+kX.length)):=by
 have hl:=h.len;have s:=b.len;have t:q*k+m*k<=n*k:=by rw[<-ez];exact eb k g
 have l:(vs.take (q*k)).length=q*k:=by simp;omega
 have a:∀ p,(vs.take (q*k)++kX++vs.drop (q*k+kX.length))[p]?=if p<q*k then vs[p]? else if p<q*k+m*k then kX[p-q*k]? else vs[p]?:=by
  intro p
  by_cases c1:p<q*k
  ·rw[aq c1,c9,bS (by omega),dx,aq c1]
  ·rw[an c1]
   by_cases c2:p<q*k+m*k
   ·rw[aq c2,c9,cj (by omega),bS (by omega),l]
   ·rw[an c2,cj (by simp;omega),l6]
    congr 1
    simp;omega
 refine⟨by simp;omega,λi hi=>?_,λi hi j c hj=>?_⟩
 ·by_cases e:q<=i/\i<q+m
  ·rw[aq e];exact b.width _ (by omega)
  ·rw[an e];exact h.width i hi
 ·rw[a]
  by_cases e:q<=i/\i<q+m
  ·rw[aq e] at hj;have f:j<k:=by have:=(aE.1 hj).1;rw[b.width _ (by omega)] at this;exact this
   have e1:q*k<=i*k:=eb k e.1;have e2:i*k+k<=q*k+m*k:=by rw[<-ez,<-kR];exact eb k e.2
   rw[an (by omega),aq (by omega)]
   obtain⟨v,v1,r⟩:=b.rd (i-q) (by omega) j c hj
   refine⟨v,?_,r⟩;rw[<-v1,Nat.sub_mul]
   congr 1
   omega
  ·rw[an e] at hj;have f:j<k:=by have:=(aE.1 hj).1;rw[h.width i hi] at this;exact this
   have:i*k+j<q*k∨q*k+m*k<=i*k+j:=by
    by_cases c1:i<q
    ·left
     have:i*k+k<=q*k:=by rw[<-kR];exact eb k c1
     omega
    ·right
     have:(q+m)*k<=i*k:=eb k (by omega)
     rw[ez] at this;omega
   rcases this with c1|c1
   ·rw[aq c1];exact h.rd i hi j _ hj
   ·rw[an (by omega),an (by omega)];exact h.rd i hi j _ hj
section
variable {P:Program}{T:List (Nat×TI)}{o:Oper}{d:Operand->D}{σ:List ak}
theorem uD{x:Operand}{t:TypeId}(h:o.op=.call { callee:=.builtin .clear,args:=#[x],argTypes:=#[t] })(a:Operand->Value) :
  execOp a o=(do pure (.value (<-Builtin.clear_ #[t] o.type #[a x]))):=by
 simp[execOp,h,resolve,invoke,builtin]
theorem vU{M:Mem}{z:Value}{g:List C}{m k:Nat}(q:z.cells.toList.map oi=g.map some)(s:g.length=k):Flat M k m (λ_=>g) (Builtin.zeroCells z.cells m).toList:=by
 have f:z.cells.size=k:=by have:=b8 List.length q;simp at this;omega
 have h:cu [] ⟨[],M,default,λ_=>False⟩ z.cells.toList (g.map A.c):=hI q
 refine⟨by simp[Builtin.zeroCells,f],λ_ _=>s,λi hi j c r=>?_⟩
 have l:j<k:=by rw[<-s];exact(aE.1 r).1
 obtain⟨v,v1,u⟩:=h.get (j:=j) (a:=A.c c) (by rw[kM,r];rfl)
 refine⟨v,?_,u⟩;have p:i*k+j<m*k:=by
  have:i*k+k<=m*k:=by rw[<-kR];exact eb k hi
  omega
 have b:(i*k+j) % k=j:=by rw[iB,Nat.add_mul_mod_self_right];exact Nat.mod_eq_of_lt l
 have e:j<z.cells.size:=by omega
 have t:z.cells[j]=v:=by
  rw[ly] at v1;rw[bJ e] at v1;exact lD v1
 have n:z.cells[j]! = v:=by rw[nk z.cells j e,t]
 simp[Builtin.zeroCells,f,p,b,n]
theorem aH.JJ(hT:bX P T){x:Operand}{t:TypeId}(h:o.op=.call { callee:=.builtin .clear,args:=#[x],argTypes:=#[t] }){i c:TI}{E:TypeId}(hi:aJ T t=some i)(hd:i.desc=.slice E)(hE:aJ T E=some c)
  {l n q m:Nat} {J:TypeId} {es:Nat->List C} (hx:d x=.e (.one (.bp l (.sl n c.size q m)))) (hl:σ[l]?=some (.buf J c.size n es)) (I:q+m<=n) :
  aH P o d σ .any (σ.set l (.buf J c.size n (om q (q+m) c.zero es))):=by
 intro s ρ hh hr;have h1:=hr x;rw[hx] at h1
 change eQ σ s (ρ x) (.bp l _) at h1
 obtain⟨lv,⟨a,a0,cap,c0,hv,Oo,IG,VK,Q,S⟩,_,U⟩:=h1;obtain⟨L,V,y⟩:=(U _ _ _ _ hl).2 rfl;rw[Q] at y;have f:=(hT t i hi).LL;rw[hd] at f;rw[uD h,hv]
 by_cases hm:m=0
 ·subst hm;have hz:om q (q+0) c.zero es=es:=by
   funext j
   simp only[om];rw[an (by omega)]
  have hs:σ.set l (.buf J c.size n es)=σ:=by
   apply lB
   intro j
   by_cases e:l=j
   ·subst e;rw[br (aE.1 hl).1,hl]
   ·rw[b7 e]
  rw[hz,hs];refine⟨.value (.tuple #[]),s,?_,ab,hh,.refl _ _,?_⟩
  ·cases a <;> simp[Builtin.clear_,run_underlying f]
  ·intro R p;cases a <;> simp[Builtin.clear_,run_underlying f,Sem.events_bind] at p
 ·obtain⟨b,rfl,rfl⟩:=S (by omega)
  rcases hh.box l _ L hl V with⟨_,rfl⟩|⟨b',c1,vs,B,rfl,g,X,Y,W,Z,hM⟩
  ·cases y
  ·cases y;obtain⟨inf,z,z1,z2,z3,z4,z5,z6,z7⟩:=(hT E c hE).info;have A:=vU (M:=s.M) (m:=m) z5 z7;have hlen:(Builtin.zeroCells z.cells m).toList.length=m*c.size:=A.len;have OZ:=Z.len;have hb:q*c.size+m*c.size<=n*c.size:=by rw[<-ez];exact eb _ I
   have q2:=Z.O3 A I;have he:(λi=>if q<=i/\i<q+m then (λ_=>c.zero) (i-q) else es i)=om q (q+m) c.zero es:=rfl
   rw[he] at q2;obtain⟨t1,t2⟩:=hh.cU hl V X Y W g q2 (by simp only[bc,List.length_take,kI];omega) hM
   have k:∀ v∈(Builtin.zeroCells z.cells m).toList,v.oneCell'=true:=A.cell;have r:=run_storeCells_at P b (q*c.size) J (Builtin.zeroCells z.cells m).toList 0 (vs++B).toArray s.w g (by simp only[mU,bc];omega) k
   have H:((vs++B).toArray.toList.take (q*c.size+0)++(Builtin.zeroCells z.cells m).toList++(vs++B).toArray.toList.drop (q*c.size+0+(Builtin.zeroCells z.cells m).toList.length))=vs.take (q*c.size)++(Builtin.zeroCells z.cells m).toList++vs.drop (q*c.size+(Builtin.zeroCells z.cells m).toList.length)++B:=by
    rw[ud,ey,List.take_append_of_le_length (by omega),List.drop_append_of_le_length (by omega),c9,c9,c9]
   rw[H] at r;have G:∀ u,(zeroValue E).run P u=.ok z u:=λu=>by simp[zeroValue,typeInfo,z1,z4]
   have N:∀ u es,(zeroValue E).events P u es=es:=λu es=>by simp[zeroValue,typeInfo,z1,z4,Sem.events_bind]
   obtain⟨K,rfl⟩:∃ K,m=K+1:=⟨m-1,by omega⟩
   refine⟨.value (.tuple #[]),_,?_,ab,t1,t2,?_⟩
   ·simp[Builtin.clear_,run_underlying f,G,r]
   ·intro R p;have F:R∈(storeCells ⟨b,q*c.size,none⟩ (Builtin.zeroCells z.cells (K+1)).toList).events P s.w #[]:=by
     simp only[Builtin.clear_,Sem.events_bind,gb,mR] at p;simpa[run_underlying f,G,N,r] using p
    rcases dL (Builtin.zeroCells z.cells (K+1)).toList 0 (vs++B).toArray s.w #[] g (by simp only[mU,bc];omega) k R F with O|⟨j,_,_,rfl⟩
    ·simp at O
    ·exact mb (aG V) (by simp) (hM _)
end
section
variable {P:Program}{X:Cx P}{N:Nat}{Qf:Post}{K:List It}{φ:Fr}{σ:List ak}{all rest:List Oper}{o:Oper}
theorem AK.qS{T:List (Nat×TI)}(Q:bX P T){t:TypeId}{x y:Operand}{i f:TI}{E:TypeId}{n:Nat}{C G:IntKind}(h:o.op=.makeSlice t x y)(hi:aJ T t=some i)(hd:i.desc=.slice E)(hE:aJ T E=some f)
  (hx:bz φ x=.e (.one (.c (.int C n)))) (hy:bz φ y=.e (.one (.c (.int G n)))) (m:n*f.bytes<=140737488355328) (R:n<=140737488355328) (hg:o.guard=none) (hN:iu N o.dst=true)
  (kk:AK X N Qf (.ops all rest::K) .normal (mX o.dst (.e (.one (.bp σ.length (.sl n f.size 0 n)))) φ) (σ++[.buf E f.size n (λ_=>f.zero)])):AK X N Qf (.ops all (o::rest)::K) .normal φ σ:=by
 refine AK.hand (ι:=Unit) (λ_=>.e (.one (.bp σ.length (.sl n f.size 0 n)))) (λ_=>σ++[.buf E f.size n (λ_=>f.zero)]) hg hN (λs a V hh=>?_) λ_=>kk
 have j:=fK V x;rw[hx] at j;have j:=eB j;generalize p:a.eval x=vx at j;cases j;have g:=fK V y;rw[hy] at g;have g:=eB g;generalize q:a.eval y=vy at g;cases g;have k:=(Q t i hi).LL;rw[hd] at k;obtain⟨d,z,B,W,z3,U,S,z6,z7⟩:=(Q E f hE).info;have O:(d.bytes:Int)*(n:Int)<=281474976710656:=by
  have Y:((d.bytes*n:Nat):Int)<=281474976710656:=by rw[z3,iA];omega
  rwa [Int.natCast_mul] at Y
 have l:=run_make (P:=P) (w:=s.w) t E d z k B U C G n n (by omega) (Int.le_refl _) O (by omega)
 simp only[az] at l;have L:z.cells.size=f.size:=by have:=b8 List.length S;simp at this;omega
 have I:madeCells z.cells (n*d.size)=Builtin.zeroCells z.cells n:=by rw[W,<-L];rfl
 let xs:=(madeCells z.cells (n*d.size)).toList
 have r:Flat s.M f.size n (λ_=>f.zero) xs:=by show Flat _ _ _ _ (madeCells _ _).toList;rw[I];exact vU S z7
 have hB:dq (σ++[.buf E f.size n (λ_=>f.zero)]) { s with w:=s.w.alloc (.cells xs.toArray E),β:=s.β++[⟨.slice (some ⟨s.w.heap.size,0,none⟩) 0 n,[s.w.heap.size]⟩] } (.buf E f.size n (λ_=>f.zero)) ⟨.slice (some ⟨s.w.heap.size,0,none⟩) 0 n,[s.w.heap.size]⟩:=by
  refine .inr ⟨s.w.heap.size,n,xs,[],rfl,by rw[gH];exact cC s.w _,by rw[gH];exact r.len,ar _,by omega,r,λo=>?_⟩
  cases F:s.M s.w.heap.size o with
  |none=>rfl
  |some v=>have:=hh.block F;omega
 have A:ag σ { s with w:=s.w.alloc (.cells xs.toArray E) }/\Step σ s σ { s with w:=s.w.alloc (.cells xs.toArray E) } :=
  hh.grow (by simp) (λb m=>bP s.w _ m) (λb m o=>rfl) (λb m o v F=>by
   have:=hh.block F;omega) rfl rfl rfl
 obtain⟨g1,g2⟩:=A.1.ij A.2 rfl hh hB (λb m=>by
   simp at m;subst m;exact⟨ar _,by simp⟩)
 refine⟨(),.value (.slice (some ⟨s.w.heap.size,0,none⟩) n n),_,_,?_,.inl rfl,?_,g1,g2,?_⟩
 ·simp[execOp,h,p,q,l,xs]
 ·refine⟨.slice (some ⟨s.w.heap.size,0,none⟩) 0 n,⟨_,_,n,n,rfl,ar _,by simp,by omega,rfl,λ_=>⟨_,rfl,by simp⟩⟩,by simp,λE' k' n' es' he=>?_⟩
  simp at he;obtain⟨_,_,rfl,_⟩:=he;exact⟨ar _,λ_=>⟨_,by show (s.β++[_])[σ.length]?=_;rw[<-hh.len,List.getElem?_concat_length],rfl⟩⟩
 ·have e:execOp a.eval o=(do pure (.value (<-Instr.makeSlice t (.int C n) (.int G n)))):=by simp[execOp,h,p,q]
  rw[e];refine dC ?_;intro e he;have hu:∀ u,(underlying t).run P u=.ok (.slice E) u:=λu=>by simp[underlying,k]
  have D:∀ u,(typeInfo E).run P u=.ok d u:=λu=>by simp[typeInfo,B]
  have J:∀ u,(zeroValue E).run P u=.ok z u:=λu=>by simp[zeroValue,typeInfo,B,U]
  have H:∀ u,(sizeOf E).run P u=.ok d.size u:=λu=>by simp[sizeOf,typeInfo,B]
  have wl:IntKind.i64.wrap (n:Int)=n:=by rw[IntKind.wrap_i64];omega
  have Z:¬(n:Int)<0:=by omega
  have n2:¬(281474976710656<(d.bytes:Int)*n):=by omega
  simp[Instr.makeSlice,hu,D,H,asInt,asIntOf,wl,Z,n2] at he;rw[J] at he;simp only[Result.evThen_ok,(bM.newRow (P:=P)) _ _,ite_self] at he;unfold askRoom at he;split at he
  ·have:e=⟨.mark .noRoom,false,true⟩:=by simpa using he
   rw[this];exact .inl rfl
  ·simp at he
end
end Go.AM
namespace Go.AM.R1
open Go.Proofs
open Go.Sort (swp insInner insOuter ltInt)
variable {X:Cx Tryz.prog}
theorem FK(n:Int):Ev X 155 [dI n] [] (dB false) []:=by
 refine Ev.body Tryz.func155 rfl rfl rfl λa=>?_
 refine aF [(5,false)] 100 rfl (by simp[aa]) (AK.au rfl ?_)
 simp[aa]
abbrev Oc:bH:=fY aI (λ_=>dB false) λ_=>[]
theorem Rr:bU X 155 Oc:=.jo λn _=>FK n
theorem Ih(x y:Int):Ev X 121 [dI x,dI y] [] (dB (ltInt x y)) []:=by
 have a:aO X [(155,Oc)]:=.cons Rr .nil;refine Ev.body Tryz.func121 rfl rfl rfl λb=>?_
 refine af a [] 100 rfl (by simp[aa]) (AK.au rfl ?_)
 simp[aa,ltInt]
abbrev pe:bH:=ga aI aI (λx y=>dB (ltInt x y)) λ_ _=>[]
theorem rP:bU X 121 pe:=.gX λx y _=>Ih x y
def eI(d:Array Int)(j:Nat):List C:=[.int .i64 d[j]!]
abbrev gY(n:Nat):D:=.e (.one (.bp 0 (.sl n 1 0 n)))
abbrev bI(n:Nat)(d:Array Int):ak:=.buf 3 1 n (eI d)
theorem gz:∀ j,j<1->([0]:List Nat)[j]?=some j:=λj a=>by
 have:j=0:=by omega
 subst this;rfl
end Go.AM.R1
namespace Go.AM.R1
open Go.Proofs
open Go.Sort (swp insInner insOuter insertionSort ltInt)
variable {X:Cx Tryz.prog}
theorem eP{d:Array Int}{i j n:Nat}(l:d.size=n)(hi:i<n)(m:j<n){f:Nat->List C}(e:ay n f (eI d)):ay n (fX j [.int .i64 d[i]!] (fX i [.int .i64 d[j]!] f)) (eI (swp d i j)):=by
 intro k h;have g:(swp d i j)[k]! = if k=j then d[i]! else if k=i then d[j]! else d[k]! := by
  unfold swp;rw[nk _ k (by simp;omega)]
  rw[Array.getElem_setIfInBounds (by simp;omega),Array.getElem_setIfInBounds (by omega)]
  by_cases a:j=k
  ·rw[aq a,aq a.symm]
  ·rw[an a,an (Ne.symm a)]
   by_cases b:i=k
   ·rw[aq b,aq b.symm]
   ·rw[an b,an (Ne.symm b),nk d k (by omega)]
 have c:=e k h;simp only[eI,fX] at c ⊢;rw[g]
 by_cases a:k=j
 ·simp only[a,aV]
 ·by_cases b:k=i
  ·subst b;simp only[a,aV,aM]
  ·simp only[a,b,aM];exact c
theorem size_swp(d:Array Int)(i j:Nat):(swp d i j).size=d.size:=by simp[swp]
theorem vr{a j:Nat}{d:Array Int}(h:a<j)(b:ltInt d[j]! d[j-1]! = true):insInner ltInt a j d=insInner ltInt a (j-1) (swp d j (j-1)):=by
 cases j with
 |zero=>omega
 |succ j =>
  simp only[lz] at b ⊢;rw[insInner,aq];rw[b,Bool.and_true];exact aQ h
theorem n7{a j:Nat}{d:Array Int}(h:a<j->ltInt d[j]! d[j-1]! = false):insInner ltInt a j d=d:=by
 cases j with
 |zero=>rfl
 |succ j =>
  simp only[lz] at h;rw[insInner,an];intro b;rw[bF] at b;rw[h (kH b.1)] at b;cases b.2
theorem Ly(n:Nat)(d:Array Int)(a b:Nat)(r:d.size=n)(t:b<=n)(v:a<=n)(w:n<=4000000) :
  Ev X 115 [gY n,dI a,dI b] [bI n d] (.eD []) [bI n (insertionSort ltInt d a b)]:=by
 have l:aO X [(121,pe)]:=.cons rP .nil;refine Ev.body Tryz.func115 rfl rfl rfl λu=>?_
 refine bw rfl (by simp[aa,aB];omega) ?_
 refine AK.bY 1 (λs:Nat×Array Int=>s.2.size=n/\a+1<=s.1/\s.1<=n+1/\insOuter ltInt a b s.1 s.2=insertionSort ltInt d a b) (λs=>[(0,gY n),(1,dI a),(2,dI b),(6,dI s.1)]) (λs=>[bI n s.2]) (λs=>b-s.1) (a+1,d) rfl ?_ rfl ?_ rfl ⟨r,by omega,by simp only;omega,rfl⟩ ?_
 ·simp[aa.cat,aa,ay]
 ·simp[aa.cat,aa,ay]
 rintro⟨i,d1⟩ ⟨o,hi,k,e⟩;simp only at o hi k e
 by_cases h:i<b
 ·refine aF [(12,true)] 100 rfl (by simp[aa];omega) ?_
  refine AK.bY 1 (λs:Nat×Array Int=>s.2.size=n/\s.1<=i/\insInner ltInt a s.1 s.2=insInner ltInt a i d1) (λs=>[(0,gY n),(1,dI a),(2,dI b),(6,dI i),(7,dI s.1)]) (λs=>[bI n s.2]) (λs=>s.1) (i,d1) rfl ?_ rfl ?_ rfl ⟨o,by simp,rfl⟩ ?_
  ·simp[aa.cat,aa,ay]
  ·simp[aa.cat,aa,ay]
  rintro⟨j,d2⟩ ⟨f,q,c⟩;simp only at f q c
  by_cases p:a<j
  ·have m:((j:Int)-1).toNat=j-1:=by omega
   by_cases g:ltInt d2[j]! d2[j-1]! = true
   ·refine af l [(18,true),(29,true)] 100 rfl ?_ ?_
    ·simp[aa,aB,m,g];omega
    refine AK.aA (j-1,swp d2 j (j-1)) rfl ?_ rfl rfl rfl ?_ rfl ?_ ?_
    ·simp[aa.cat,aa];omega
    ·simp only[aa.cat,aa,m,aw,az,ah,ai];exact eP f (by omega) (by omega) (λ_ _=>rfl)
    ·refine⟨by rw[size_swp];exact f,by omega,?_⟩
     rw[<-c,vr p g]
    ·simp;omega
   ·refine af l [(18,true),(29,false)] 100 rfl ?_ (AK.leaveD rfl rfl ?_)
    ·simp[aa,aB,m,g];omega
    refine bw rfl ?_ (AK.aA (i+1,d2) rfl ?_ rfl rfl rfl ?_ rfl ?_ ?_)
    ·simp[aa,aB];omega
    ·simp[aa.cat,aa]
    ·simp[aa.cat,aa,ay]
    ·refine⟨f,by omega,by simp only;omega,?_⟩
     simp only;rw[<-e,insOuter.eq_1 ltInt a b i,aq h,<-c,n7 λ_=>by simpa using g]
    ·simp;omega
  ·refine af l [(18,false)] 100 rfl ?_ (AK.leaveD rfl rfl ?_)
   ·simp[aa,aB];omega
   refine bw rfl ?_ (AK.aA (i+1,d2) rfl ?_ rfl rfl rfl ?_ rfl ?_ ?_)
   ·simp[aa,aB];omega
   ·simp[aa.cat,aa]
   ·simp[aa.cat,aa,ay]
   ·refine⟨f,by omega,by simp only;omega,?_⟩
    simp only;rw[<-e,insOuter.eq_1 ltInt a b i,aq h,<-c,n7 λx=>absurd x p]
   ·simp;omega
 ·refine aF [(12,false)] 100 rfl (by simp[aa];omega) (AK.leaveD rfl rfl ?_)
  have:insertionSort ltInt d a b=d1:=by rw[<-e,insOuter,an h]
  rw[this];exact aW.oz [0] rfl ab rfl rfl rfl gz
end Go.AM.R1
namespace Go.AM.R1
open Go.Proofs
open Go.Sort (swp siftDown ltInt)
variable {X:Cx Tryz.prog}
theorem FU{hi first root:Nat}{d:Array Int}(h:¬2*root+1<hi):siftDown ltInt hi first root d=d:=by
 rw[siftDown,dif_pos (by omega)]
theorem FV{hi first root:Nat}{d:Array Int}(h:2*root+1<hi)(b:2*root+1+1<hi->ltInt d[first+(2*root+1)]! d[first+(2*root+1)+1]! = false)(c:ltInt d[first+root]! d[first+(2*root+1)]! = true) :
  siftDown ltInt hi first root d=siftDown ltInt hi first (2*root+1) (swp d (first+root) (first+(2*root+1))):=by
 rw[siftDown.eq_1 ltInt hi first root d,dif_neg (by omega),an (by intro a;rw[bF] at a;rw[b (kH a.1)] at a;cases a.2),an (by simp[c])]
theorem AR{hi first root:Nat}{d:Array Int}(h:2*root+1<hi)(b:2*root+1+1<hi->ltInt d[first+(2*root+1)]! d[first+(2*root+1)+1]! = false)(c:ltInt d[first+root]! d[first+(2*root+1)]! = false) :
  siftDown ltInt hi first root d=d:=by
 rw[siftDown.eq_1 ltInt hi first root d,dif_neg (by omega),an (by intro a;rw[bF] at a;rw[b (kH a.1)] at a;cases a.2),aq (by simp[c])]
theorem LB{hi first root:Nat}{d:Array Int}(h:2*root+1+1<hi)(a:ltInt d[first+(2*root+1)]! d[first+(2*root+1+1)]! = true)(b:ltInt d[first+root]! d[first+(2*root+1+1)]! = true) :
  siftDown ltInt hi first root d=siftDown ltInt hi first (2*root+1+1) (swp d (first+root) (first+(2*root+1+1))):=by
 rw[siftDown.eq_1 ltInt hi first root d,dif_neg (by omega),aq (by rw[bF];exact⟨aQ h,a⟩),an (by simp only[show 2*root+2=2*root+1+1 from rfl,b];decide),dif_pos (by omega)]
theorem Im{hi first root:Nat}{d:Array Int}(h:2*root+1+1<hi)(a:ltInt d[first+(2*root+1)]! d[first+(2*root+1+1)]! = true)(b:ltInt d[first+root]! d[first+(2*root+1+1)]! = false) :
  siftDown ltInt hi first root d=d:=by
 rw[siftDown.eq_1 ltInt hi first root d,dif_neg (by omega),aq (by rw[bF];exact⟨aQ h,a⟩),aq (by simp only[show 2*root+2=2*root+1+1 from rfl,b];decide)]
set_option maxHeartbeats 4000000 in
theorem Io(n:Nat)(d:Array Int)(lo hi first:Nat)(o:d.size=n)(q:first+hi<=n)(m:lo<=n)(t:n<=4000000) :
  Ev X 150 [gY n,dI lo,dI hi,dI first] [bI n d] (.eD []) [bI n (siftDown ltInt hi first lo d)]:=by
 have j:aO X [(121,pe)]:=.cons rP .nil;refine Ev.body Tryz.func150 rfl rfl rfl λr=>?_
 refine bw rfl ab ?_;refine AK.bY 1 (λs:Nat×Array Int=>s.2.size=n/\s.1<=n/\siftDown ltInt hi first s.1 s.2=siftDown ltInt hi first lo d) (λs=>[(0,gY n),(1,dI lo),(2,dI hi),(3,dI first),(8,dI s.1)]) (λs=>[bI n s.2]) (λs=>hi-s.1) (lo,d) rfl ?_ rfl ?_ rfl ⟨o,m,rfl⟩ ?_
 ·simp[aa.cat,aa,ay]
 ·simp[aa.cat,aa,ay]
 rintro⟨root,d1⟩ ⟨i,p,a⟩;simp only at i p a
 by_cases h:2*root+1<hi
 ·have g:((first:Int)+(2*(root:Int)+1)).toNat=first+(2*root+1):=by omega
  have f:((first:Int)+(2*(root:Int)+1)+1).toNat=first+(2*root+1+1):=by omega
  by_cases k:2*root+1+1<hi
  ·by_cases e:ltInt d1[first+(2*root+1)]! d1[first+(2*root+1+1)]! = true
   ·have l:((first:Int)+(2*(root:Int)+1+1)).toNat=first+(2*root+1+1):=by omega
    have c:((first:Int)+(root:Int)).toNat=first+root:=by omega
    by_cases b:ltInt d1[first+root]! d1[first+(2*root+1+1)]! = true
    ·refine af j [(16,false),(20,true),(35,true),(51,true)] 200 rfl ?_ (AK.aA (2*root+1+1,swp d1 (first+root) (first+(2*root+1+1))) rfl ?_ rfl rfl rfl ?_ rfl ?_ ?_)
     ·simp only[aa,aw,g,f,c,l,e,b,aB,aD,a9,ai,ah];and_intros <;> omega
     ·simp only[aa.cat,aa,ai,ah];and_intros <;> omega
     ·simp only[aa.cat,aa,aw,g,f,c,l,ah,ai];exact eP i (by omega) (by omega) (λ_ _=>rfl)
     ·refine⟨by rw[size_swp];exact i,by simp only;omega,?_⟩
      rw[<-a,LB k e b]
     ·simp only;omega
    ·rw[kJ] at b;rw[show siftDown ltInt hi first lo d=d1 by rw[<-a,Im k e b]]
     refine af j [(16,false),(20,true),(35,true),(51,false)] 200 rfl ?_ (AK.cV (aW.mk [0] rfl ab rfl rfl rfl gz));simp only[aa,aw,g,f,c,l,e,b,aB,aD,a9,ai,ah];and_intros <;> omega
   ·rw[kJ] at e;have c:((first:Int)+(root:Int)).toNat=first+root:=by omega
    by_cases b:ltInt d1[first+root]! d1[first+(2*root+1)]! = true
    ·refine af j [(16,false),(20,true),(35,false),(51,true)] 200 rfl ?_ (AK.aA (2*root+1,swp d1 (first+root) (first+(2*root+1))) rfl ?_ rfl rfl rfl ?_ rfl ?_ ?_)
     ·simp only[aa,aw,g,f,c,e,b,aB,aD,a9,ai,ah];and_intros <;> omega
     ·simp only[aa.cat,aa,ai,ah];and_intros <;> omega
     ·simp only[aa.cat,aa,aw,g,f,c,ah,ai];exact eP i (by omega) (by omega) (λ_ _=>rfl)
     ·refine⟨by rw[size_swp];exact i,by simp only;omega,?_⟩
      rw[<-a,FV h (λ_=>e) b]
     ·simp only;omega
    ·rw[kJ] at b;rw[show siftDown ltInt hi first lo d=d1 by rw[<-a,AR h (λ_=>e) b]]
     refine af j [(16,false),(20,true),(35,false),(51,false)] 200 rfl ?_ (AK.cV (aW.mk [0] rfl ab rfl rfl rfl gz));simp only[aa,aw,g,f,c,e,b,aB,aD,a9,ai,ah];and_intros <;> omega
  ·have e:True:=ab;have c:((first:Int)+(root:Int)).toNat=first+root:=by omega
   by_cases b:ltInt d1[first+root]! d1[first+(2*root+1)]! = true
   ·refine af j [(16,false),(20,false),(51,true)] 200 rfl ?_ (AK.aA (2*root+1,swp d1 (first+root) (first+(2*root+1))) rfl ?_ rfl rfl rfl ?_ rfl ?_ ?_)
    ·simp only[aa,aw,g,f,c,b,aB,aD,a9,ai,ah];and_intros <;> omega
    ·simp only[aa.cat,aa,ai,ah];and_intros <;> omega
    ·simp only[aa.cat,aa,aw,g,f,c,ah,ai];exact eP i (by omega) (by omega) (λ_ _=>rfl)
    ·refine⟨by rw[size_swp];exact i,by simp only;omega,?_⟩
     rw[<-a,FV h (λx=>absurd x k) b]
    ·simp only;omega
   ·rw[kJ] at b;rw[show siftDown ltInt hi first lo d=d1 by rw[<-a,AR h (λx=>absurd x k) b]]
    refine af j [(16,false),(20,false),(51,false)] 200 rfl ?_ (AK.cV (aW.mk [0] rfl ab rfl rfl rfl gz));simp only[aa,aw,g,f,c,b,aB,aD,a9,ai,ah];and_intros <;> omega
 ·refine aF [(16,true)] 100 rfl (by simp only[aa,aB,aD,ai,ah];and_intros <;> omega) (AK.leaveD rfl rfl ?_)
  rw[<-a,FU h];exact aW.oz [0] rfl ab rfl rfl rfl gz
end Go.AM.R1
namespace Go.AM.R1
open Go.Proofs
open Go.Sort (swp order2 median medianAdjacent choosePivot Hint ltInt)
variable {X:Cx Tryz.prog}
abbrev bN(k:Nat):ak:=.cells 3 [.c (.int .i64 k)]
abbrev LY:D:=.e (.one (.ptr 1 0))
abbrev Vy(a b:Nat):D:=.eD [.one (.c (.int .i64 a)),.one (.c (.int .i64 b))]
theorem AS:∀ j,j<2->([0,1]:List Nat)[j]?=some j:=λj a=>by
 rcases j with _|_|j
 ·rfl
 ·rfl
 ·omega
theorem oP(n:Nat)(d:Array Int)(a b sw:Nat)(j:a<n)(g:b<n)(k:n<=4000000)(f:sw<=1000) :
  Ev X 192 [gY n,dI a,dI b,LY] [bI n d,bN sw] (Vy (order2 ltInt d a b sw).1 (order2 ltInt d a b sw).2.1) [bI n d,bN (order2 ltInt d a b sw).2.2]:=by
 have c:aO X [(121,pe)]:=.cons rP .nil;refine Ev.body Tryz.func192 rfl rfl rfl λi=>?_
 by_cases h:ltInt d[b]! d[a]! = true
 ·have e:order2 ltInt d a b sw=(b,a,sw+1):=by simp[order2,h]
  rw[e];refine af c [(18,true)] 200 rfl ?_ (AK.eK [0,1] rfl ?_ rfl rfl rfl AS)
  ·simp only[aa,aw,az,h,aB,ai,ah];and_intros <;> omega
  ·simp[aa,aa.cat]
 ·have e:order2 ltInt d a b sw=(a,b,sw):=by simp[order2,h]
  rw[e];rw[kJ] at h;refine af c [(18,false)] 200 rfl ?_ (AK.eK [0,1] rfl ?_ rfl rfl rfl AS)
  ·simp only[aa,aw,az,h,aB,ai,ah];and_intros <;> omega
  ·simp[aa,aa.cat]
theorem kE{d:Array Int}{a b sw n:Nat}(c:a<n)(e:b<n):(order2 ltInt d a b sw).1<n/\(order2 ltInt d a b sw).2.1<n/\(order2 ltInt d a b sw).2.2<=sw+1:=by
 unfold order2;split <;> simp only <;> omega
theorem tI(n:Nat)(d:Array Int)(a b c sw:Nat)(i:a<n)(h:b<n)(g:c<n)(f:n<=4000000)(k:sw<=900) :
  Ev X 154 [gY n,dI a,dI b,dI c,LY] [bI n d,bN sw] (dI (median ltInt d a b c sw).1) [bI n d,bN (median ltInt d a b c sw).2]:=by
 refine Ev.body Tryz.func154 rfl rfl rfl λl=>?_
 have e:=kE (d:=d) (sw:=sw) i h;have j:=kE (d:=d) (sw:=(order2 ltInt d a b sw).2.2) e.2.1 g;refine eX rfl ab ?_;refine AK.aP (oP n d a b sw i h f (by omega)) [0,1] rfl rfl rfl rfl rfl rfl rfl rfl rfl rfl rfl ?_
 refine eX rfl ab ?_;refine AK.aP (oP n d (order2 ltInt d a b sw).2.1 c (order2 ltInt d a b sw).2.2 e.2.1 g f (by omega)) [0,1] rfl rfl rfl rfl rfl rfl rfl rfl rfl rfl rfl ?_
 refine eX rfl ab ?_;refine AK.aP (oP n d (order2 ltInt d a b sw).1 (order2 ltInt d (order2 ltInt d a b sw).2.1 c (order2 ltInt d a b sw).2.2).1 (order2 ltInt d (order2 ltInt d a b sw).2.1 c (order2 ltInt d a b sw).2.2).2.2 e.1 j.1 f (by omega)) [0,1] rfl rfl rfl rfl rfl rfl rfl rfl rfl rfl rfl ?_
 refine eX rfl ab (AK.eK [0,1] rfl ?_ rfl rfl rfl AS);simp[aa,aa.cat,median]
theorem Ct{d:Array Int}{a b c sw n:Nat}(i:a<n)(g:b<n)(f:c<n):(median ltInt d a b c sw).1<n/\(median ltInt d a b c sw).2<=sw+3:=by
 have e:=kE (d:=d) (sw:=sw) i g;have j:=kE (d:=d) (sw:=(order2 ltInt d a b sw).2.2) e.2.1 f;have h:=kE (d:=d) (sw:=(order2 ltInt d (order2 ltInt d a b sw).2.1 c (order2 ltInt d a b sw).2.2).2.2) e.1 j.1;unfold median;exact⟨h.2.1,by simp only;omega⟩
theorem vt(n:Nat)(d:Array Int)(a sw:Nat)(g:1<=a)(e:a+1<n)(c:n<=4000000)(b:sw<=900) :
  Ev X 153 [gY n,dI a,LY] [bI n d,bN sw] (dI (medianAdjacent ltInt d a sw).1) [bI n d,bN (medianAdjacent ltInt d a sw).2]:=by
 refine Ev.body Tryz.func153 rfl rfl rfl λf=>?_
 obtain⟨a,rfl⟩:∃ a',a=a'+1:=⟨a-1,by omega⟩
 refine eX rfl (by simp only[aa,aB];and_intros <;> omega) ?_
 have key:∀ x y z:Int,x=(a:Int)->y=((a+1:Nat):Int)->z=((a+1+1:Nat):Int)->Ev X 154 [gY n,dI x,dI y,dI z,LY] [bI n d,bN sw] (dI (median ltInt d a (a+1) (a+1+1) sw).1) [bI n d,bN (median ltInt d a (a+1) (a+1+1) sw).2]:=by
  rintro x y z rfl rfl rfl;exact tI n d a (a+1) (a+1+1) sw (by omega) (by omega) (by omega) c b
 refine AK.aP (key (((a+1:Nat):Int)-1) _ (((a+1:Nat):Int)+1) (by omega) rfl (by omega)) [0,1] rfl rfl rfl rfl rfl rfl rfl rfl rfl rfl rfl ?_
 refine eX rfl ab (AK.eK [0,1] rfl ?_ rfl rfl rfl AS);simp[aa,aa.cat,medianAdjacent]
end Go.AM.R1
namespace Go.AM
open Go.Conc (G)
section
variable {P:Program}{X:Cx P}{N:Nat}{Qf:Post}{φ:Fr}{σ:List ak}
theorem AK.wu{c:Code}{K:List It}{φ':Fr}{σ':List ak}(k:AK X N Qf (.code c::K) .normal φ' σ'){ps qs:List Prop}(h1:nS φ φ'=some ps)(b:aa ps)(h2:py σ σ'=some qs)(a:aa qs):AK X N Qf (.code c::K) .normal φ σ :=
 AK.norm σ' h2 a (AW.le k (cm h1 b))
def oY:List It->List It
 |.blk _::K=>oY K
 |K=>K
theorem AK.oY:∀ {K:List It},AK X N Qf (oY K) .normal φ σ->AK X N Qf K .normal φ σ
 |[],h=>h
 |.blk _::K,h=>AK.oY (K:=K) h
 |.code _::_,h=>h
 |.ops _ _::_,h=>h
theorem AK.iv{S S2:Type}{c c2:Code}(id:Nat){K d i:List It}(h2:hY id K=some d)(j:Go.AM.oY d=.code c2::i)(O:S2->Prop)(mE:S2->Fr)(a:S2->List ak)(n:Nat)(I:S->Prop)(fr:S->Fr)(st:S->List ak)(h:S->Nat)(x:S)
  {ps qs:List Prop} (g:nS φ (fr x)=some ps) (b:aa ps) (e:py σ (st x)=some qs) (f:aa qs) (k:σ.length=n) (l:I x)
  (round:(∀ (y:S2) {φ:Fr} {σ:List ak} {ps qs:List Prop},O y->nS φ (mE y)=some ps->aa ps->py σ (a y)=some qs->aa qs->AK X N Qf d .normal φ σ) ->
   ∀ x,I x->AK X N (j2 X N Qf K I fr st h n x) [.code c] .normal (fr x) (st x))
  (after:∀ y,O y->AK X N Qf (.code c2::i) .normal (mE y) (a y)):AK X N Qf (.code (.loop c)::K) .normal φ σ :=
 AK.bY n I fr st h x g b e f k l (round λy _ _ _ _ m h1 b h2 f=>AK.oY (by rw[j];exact(after y m).wu h1 b h2 f))
end
end Go.AM
namespace Go.AM.R1
open Go.Proofs
open Go.Sort (swp order2 median medianAdjacent choosePivot Hint ltInt)
variable {X:Cx Tryz.prog}
def kD:Hint->Int|.unknown=>0|.increasing=>1|.decreasing=>2
theorem rT(n:Nat)(d:Array Int){a b c:Nat}(sw:Nat)(k:a<n)(h:b<n)(g:c<n)(l:n<=4000000)(e:sw<=900){x y z:Int}(f:x=a)(j:y=b)(i:z=c) :
  Ev X 154 [gY n,dI x,dI y,dI z,LY] [bI n d,bN sw] (dI (median ltInt d a b c sw).1) [bI n d,bN (median ltInt d a b c sw).2]:=by
 subst f j i;exact tI n d a b c sw k h g l e
theorem j6(n:Nat)(d:Array Int){a:Nat}(sw:Nat)(f:1<=a)(e:a+1<n)(g:n<=4000000)(b:sw<=900){x:Int}(c:x=a) :
  Ev X 153 [gY n,dI x,LY] [bI n d,bN sw] (dI (medianAdjacent ltInt d a sw).1) [bI n d,bN (medianAdjacent ltInt d a sw).2]:=by
 subst c;exact vt n d a sw f e g b
theorem lj{d:Array Int}{a sw n:Nat}(b:1<=a)(c:a+1<n):(medianAdjacent ltInt d a sw).1<n/\(medianAdjacent ltInt d a sw).2<=sw+3 :=
 Ct (by omega) (by omega) (by omega)
abbrev l5(k:Nat):Hint:=if k=0 then .increasing else if k=12 then .decreasing else .unknown
theorem FW{d:Array Int}{a l:Nat}(b:8<=l)(c:l<50):choosePivot ltInt d a (a+l)=((median ltInt d (a+l / 4*1) (a+l / 4*2) (a+l / 4*3) 0).1,l5 (median ltInt d (a+l / 4*1) (a+l / 4*2) (a+l / 4*3) 0).2):=by
 unfold choosePivot;simp only[kG,aq (show l≥8 from b),an (show ¬l≥50 by omega)]
abbrev mA(d:Array Int)(a l:Nat):=medianAdjacent ltInt d (a+l / 4*1) 0
abbrev mB(d:Array Int)(a l:Nat):=medianAdjacent ltInt d (a+l / 4*2) (mA d a l).2
abbrev mC(d:Array Int)(a l:Nat):=medianAdjacent ltInt d (a+l / 4*3) (mB d a l).2
theorem FX{d:Array Int}{a l:Nat}(b:50<=l):choosePivot ltInt d a (a+l)=((median ltInt d (mA d a l).1 (mB d a l).1 (mC d a l).1 (mC d a l).2).1,l5 (median ltInt d (mA d a l).1 (mB d a l).1 (mC d a l).1 (mC d a l).2).2):=by
 unfold choosePivot;simp only[kG,aq (show l≥8 by omega),aq (show l≥50 from b)]
theorem Cr(n:Nat)(d:Array Int)(a b:Nat)(j:a<=b)(k:b<=n)(i:8<=b-a)(g:n<=4000000) :
  Ev X 118 [gY n,dI a,dI b] [bI n d] (.eD [.one (.c (.int .i64 (choosePivot ltInt d a b).1)),.one (.c (.int .i64 (kD (choosePivot ltInt d a b).2)))]) [bI n d]:=by
 refine Ev.body Tryz.func118 rfl rfl rfl λo=>?_
 obtain⟨l,rfl⟩:∃ l,b=a+l:=⟨b-a,by omega⟩
 rw[kG] at i
 by_cases h:l<50
 ·refine aF [(32,true),(34,false)] 200 rfl ?_ ?_
  ·simp only[aa,aB,aD,a9,ai,ah];and_intros <;> omega
  refine AK.aP (rT n d (a:=a+l / 4*1) (b:=a+l / 4*2) (c:=a+l / 4*3) 0 (by omega) (by omega) (by omega) g (by omega) (by omega) (by omega) (by omega)) [0,1] rfl rfl rfl rfl rfl rfl rfl rfl rfl rfl rfl ?_
  rw[FW i h];generalize median ltInt d (a+l / 4*1) (a+l / 4*2) (a+l / 4*3) 0=r
  by_cases e:r.2=0
  ·refine aF [(52,true)] 200 rfl (by simp[aa,e]) (AK.eK [0] rfl ?_ rfl rfl rfl gz)
   simp[aa,aa.cat,e,kD,l5]
  by_cases f:r.2=12
  ·refine aF [(52,false),(55,true)] 200 rfl (by simp[aa,f]) (AK.eK [0] rfl ?_ rfl rfl rfl gz)
   simp[aa,aa.cat,f,kD,l5]
  ·refine aF [(52,false),(55,false)] 200 rfl (by simp[aa,e];omega) (AK.eK [0] rfl ?_ rfl rfl rfl gz)
   simp[aa,aa.cat,e,f,kD,l5]
 ·refine aF [(32,true),(34,true)] 200 rfl ?_ ?_
  ·simp only[aa,aB,aD,a9,ai,ah];and_intros <;> omega
  have p:(mA d a l).1<n/\(mA d a l).2<=0+3:=lj (d:=d) (a:=a+l / 4*1) (sw:=0) (n:=n) (by omega) (by omega)
  have q:(mB d a l).1<n/\(mB d a l).2<=(mA d a l).2+3:=lj (d:=d) (a:=a+l / 4*2) (sw:=(mA d a l).2) (n:=n) (by omega) (by omega)
  have m:(mC d a l).1<n/\(mC d a l).2<=(mB d a l).2+3:=lj (d:=d) (a:=a+l / 4*3) (sw:=(mB d a l).2) (n:=n) (by omega) (by omega)
  refine AK.aP (j6 n d (a:=a+l / 4*1) 0 (by omega) (by omega) g (by omega) (by omega)) [0,1] rfl rfl rfl rfl rfl rfl rfl rfl rfl rfl rfl ?_
  refine eX rfl ab ?_;refine AK.aP (j6 n d (a:=a+l / 4*2) (mA d a l).2 (by omega) (by omega) g (by omega) (by omega)) [0,1] rfl rfl rfl rfl rfl rfl rfl rfl rfl rfl rfl ?_
  refine eX rfl ab ?_;refine AK.aP (j6 n d (a:=a+l / 4*3) (mB d a l).2 (by omega) (by omega) g (by omega) (by omega)) [0,1] rfl rfl rfl rfl rfl rfl rfl rfl rfl rfl rfl ?_
  refine eX rfl ab ?_;refine AK.aP (rT n d (a:=(mA d a l).1) (b:=(mB d a l).1) (c:=(mC d a l).1) (mC d a l).2 (by omega) (by omega) (by omega) g (by omega) rfl rfl rfl) [0,1] rfl rfl rfl rfl rfl rfl rfl rfl rfl rfl rfl ?_
  rw[FX (by omega)]
  generalize median ltInt d (mA d a l).1 (mB d a l).1 (mC d a l).1 (mC d a l).2=r
  by_cases e:r.2=0
  ·refine aF [(52,true)] 200 rfl (by simp[aa,e]) (AK.eK [0] rfl ?_ rfl rfl rfl gz)
   simp[aa,aa.cat,e,kD,l5]
  by_cases f:r.2=12
  ·refine aF [(52,false),(55,true)] 200 rfl (by simp[aa,f]) (AK.eK [0] rfl ?_ rfl rfl rfl gz)
   simp[aa,aa.cat,f,kD,l5]
  ·refine aF [(52,false),(55,false)] 200 rfl (by simp[aa,e];omega) (AK.eK [0] rfl ?_ rfl rfl rfl gz)
   simp[aa,aa.cat,e,f,kD,l5]
end Go.AM.R1
namespace Go.AM.R1
open Go.Proofs
open Go.Sort (swp reverseLoop reverseRange siftDown heapBuild heapPop heapSort ltInt)
variable {X:Cx Tryz.prog}
theorem LA(n:Nat)(d:Array Int)(a b:Nat)(k:d.size=n)(p:1<=b)(o:a<=n)(l:b<=n)(q:n<=4000000):Ev X 119 [gY n,dI a,dI b] [bI n d] (.eD []) [bI n (reverseRange d a b)]:=by
 refine Ev.body Tryz.func119 rfl rfl rfl λm=>?_
 refine bw rfl (by simp[aa,aB];omega) ?_
 refine AK.bY 1 (λs:Nat×Nat×Array Int=>s.2.2.size=n/\s.1<=n/\s.2.1<n+1/\s.2.1<n/\reverseLoop s.1 s.2.1 s.2.2=reverseRange d a b) (λs=>[(0,gY n),(6,dI s.1),(7,dI s.2.1)]) (λs=>[bI n s.2.2]) (λs=>s.2.1-s.1) (a,b-1,d) rfl ?_ rfl ?_ rfl ⟨k,by simp only;omega,by simp only;omega,by simp only;omega,rfl⟩ ?_
 ·simp[aa.cat,aa];omega
 ·simp[aa.cat,aa,ay]
 rintro⟨i,j,d1⟩ ⟨f,hi,_,g,c⟩;simp only at f hi g c
 by_cases h:i<j
 ·refine aF [(13,true)] 200 rfl ?_ (AK.aA (i+1,j-1,swp d1 i j) rfl ?_ rfl rfl rfl ?_ rfl ?_ ?_)
  ·simp only[aa,aw,az,aB,aD,ai,ah];and_intros <;> omega
  ·simp only[aa.cat,aa,ai,ah];and_intros <;> omega
  ·simp only[aa.cat,aa,aw,az,ah,ai];exact eP f (by omega) (by omega) (λ_ _=>rfl)
  ·refine⟨by rw[size_swp];exact f,by simp only;omega,by simp only;omega,by simp only;omega,?_⟩
   rw[<-c,reverseLoop.eq_1 i j d1,aq h]
  ·simp only;omega
 ·have e:reverseRange d a b=d1:=by rw[<-c,reverseLoop,an h]
  rw[e];refine aF [(13,false)] 100 rfl (by simp[aa];omega) (AK.leaveD rfl rfl ?_)
  exact aW.oz [0] rfl ab rfl rfl rfl gz
theorem xq(n:Nat)(d:Array Int){lo hi first:Nat}(e:d.size=n)(c:first+hi<=n)(b:lo<=n)(h:n<=4000000){x y z:Int}(a:x=lo)(g:y=hi)(f:z=first) :
  Ev X 150 [gY n,dI x,dI y,dI z] [bI n d] (.eD []) [bI n (siftDown ltInt hi first lo d)]:=by
 subst a g f;exact Io n d lo hi first e c b h
theorem tJ(hi first:Nat):∀ (m root:Nat)(d:Array Int),hi-root<=m->(siftDown ltInt hi first root d).size=d.size:=by
 intro m
 induction m with
 |zero=>intro root d h;rw[siftDown,dif_pos (by omega)]
 |succ m a =>
  intro root d h;rw[siftDown];split
  ·rfl
  split
  ·split
   ·rfl
   split
   ·rw[a _ _ (by omega),size_swp]
   ·rfl
  ·split
   ·rfl
   ·rw[a _ _ (by omega),size_swp]
set_option maxHeartbeats 1000000 in
theorem Ik(n:Nat)(d:Array Int)(a b:Nat)(q:d.size=n)(r:a<=b)(t:1<=b-a)(p:b<=n)(o:n<=4000000):Ev X 116 [gY n,dI a,dI b] [bI n d] (.eD []) [bI n (heapSort ltInt d a b)]:=by
 refine Ev.body Tryz.func116 rfl rfl rfl λu=>?_
 obtain⟨l,rfl⟩:∃ l,b=a+l:=⟨b-a,by omega⟩
 rw[kG] at t;refine eX rfl (by simp only[aa,aB,ai,ah];and_intros <;> omega) ?_
 refine AK.iv (S2:=Array Int) 0 rfl rfl (λd2=>d2.size=n/\d2=heapBuild ltInt l a ((l-1) / 2+1) d) (λ_=>[(0,gY n),(6,dI a),(7,dI 0),(8,dI l)]) (λd2=>[bI n d2]) 1 (λs:Nat×Array Int=>s.2.size=n/\s.1<=(l-1) / 2+1/\heapBuild ltInt l a s.1 s.2=heapBuild ltInt l a ((l-1) / 2+1) d) (λs=>[(0,gY n),(6,dI a),(7,dI 0),(8,dI l),(9,dI ((s.1:Int)-1))]) (λs=>[bI n s.2]) (λs=>s.1) ((l-1) / 2+1,d) rfl ?_ rfl ?_ rfl ⟨q,ar _,rfl⟩ ?_ ?_
 ·simp[aa.cat,aa];omega
 ·simp[aa.cat,aa,ay]
 ·rintro out ⟨k,d1⟩ ⟨e,j,c⟩;simp only at e j c;cases k with
  |zero =>
   refine aF [(19,false)] 100 rfl (by simp[aa]) (AK.leaveD rfl rfl ?_)
   exact out d1 ⟨e,c⟩ rfl (by simp[aa,aa.cat]) rfl (by simp[aa,aa.cat,ay])
  |succ k =>
   refine aF [(19,true)] 100 rfl (by simp only[aa,aD];omega) ?_
   refine AK.aP (xq n d1 (lo:=k) (hi:=l) (first:=a) e p (by omega) o (by omega) rfl rfl) [0] rfl rfl rfl rfl rfl rfl rfl rfl rfl rfl rfl ?_
   refine eX rfl ?_ (AK.aA (k,siftDown ltInt l a k d1) rfl ?_ rfl rfl rfl ?_ rfl ?_ ?_)
   ·simp only[aa,aB];omega
   ·simp only[aa.cat,aa,ai,ah];omega
   ·simp[aa.cat,aa,ay]
   ·exact⟨by rw[tJ _ _ _ _ _ (ar _)];exact e,by simp only;omega,c⟩
   ·simp
 rintro h ⟨i,g⟩;refine eX rfl (by simp only[aa,aB];omega) ?_
 have f:heapSort ltInt d a (a+l)=heapPop ltInt a l h:=by
  unfold heapSort;rw[kG,<-g]
 rw[f];refine AK.bY 1 (λs:Nat×Array Int=>s.2.size=n/\s.1<=l/\heapPop ltInt a s.1 s.2=heapPop ltInt a l h) (λs=>[(0,gY n),(6,dI a),(7,dI 0),(8,dI l),(10,dI ((s.1:Int)-1))]) (λs=>[bI n s.2]) (λs=>s.1) (l,h) rfl ?_ rfl ?_ rfl ⟨i,ar _,rfl⟩ ?_
 ·simp[aa.cat,aa]
 ·simp[aa.cat,aa,ay]
 rintro⟨k,d1⟩ ⟨e,j,c⟩;simp only at e j c;cases k with
 |zero =>
  rw[<-c];refine aF [(30,false)] 100 rfl (by simp[aa]) (AK.leaveD rfl rfl ?_)
  exact aW.oz [0] rfl ab rfl rfl rfl gz
 |succ k =>
  have m:((a:Int)+(((k+1:Nat):Int)-1)).toNat=a+k:=by omega
  refine aF [(30,true),(1000011,true)] 200 rfl ?_ ?_
  ·simp only[aa,aw,az,m,aB,aD,ai,ah];and_intros <;> omega
  refine AK.norm [bI n (swp d1 a (a+k))] rfl ?_ ?_
  ·simp only[aa.cat,aa,aw,az,m,ah,ai];exact eP e (by omega) (by omega) (λ_ _=>rfl)
  refine eX rfl ab ?_;refine AK.aP (xq n (swp d1 a (a+k)) (lo:=0) (hi:=k) (first:=a) (by rw[size_swp];exact e) (by omega) (by omega) o rfl (by omega) rfl) [0] rfl rfl rfl rfl rfl rfl rfl rfl rfl rfl rfl ?_
  refine eX rfl ?_ (AK.aA (k,siftDown ltInt k a 0 (swp d1 a (a+k))) rfl ?_ rfl rfl rfl ?_ rfl ?_ ?_)
  ·simp only[aa,aB];omega
  ·simp only[aa.cat,aa,ai,ah];omega
  ·simp[aa.cat,aa,ay]
  ·exact⟨by rw[tJ _ _ _ _ _ (ar _),size_swp];exact e,by simp only;omega,c⟩
  ·simp
end Go.AM.R1
namespace Go.AM.R1
theorem hZ{p:Bs}(h:bn p=true):∀ b∈p,97<=b.toNat/\b.toNat<=122:=by
 intro b a;have:=List.all_eq_true.1 h b a;simpa[cW] using this
theorem ri:∀ (p:Bs) (n m:Int)(k:Nat),(∀ b∈p,97<=b.toNat/\b.toNat<=122)->0<=n->n<m->1<=m ->
  0<=p.foldl (λn b=>27*n+((b.toNat:Int)-97) % 256+1) n/\p.foldl (λn b=>27*n+((b.toNat:Int)-97) % 256+1) n<m*27 ^ p.length
 |[],n,m,_,_,d,c,_=>by simpa using⟨d,c⟩
 |b::p,n,m,k,a,d,c,g=>by
  obtain⟨h,f⟩:=a b (by simp)
  have:=ri p (27*n+((b.toNat:Int)-97) % 256+1) (m*27) k (λx e=>a x (by simp[e])) (by omega) (by omega) (by omega)
  simp only[kO,fa];rw[Int.pow_succ,Int.mul_comm (27 ^ p.length) 27,<-Int.mul_assoc];exact this
theorem Jd:∀ {n:Nat},n<=8->(27:Int) ^ n<=282429536481:=by
 intro n a
 match n,a with
 |0,_|1,_|2,_|3,_|4,_|5,_|6,_|7,_|8,_=>decide
theorem tc{p:Bs}(h:aY p=true):0<=codeOf p/\codeOf p<282429536481:=by
 simp only[aY,bF,aD] at h;obtain⟨b,a⟩:=ri p 0 1 0 (hZ h.2) (by omega) (by omega) (by omega)
 have:=Jd h.1.2;rw[Int.one_mul] at a;exact⟨b,Int.lt_of_lt_of_le a this⟩
end Go.AM.R1
