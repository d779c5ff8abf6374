/-
  The facts on the program's types, computed. No statement of a seat is proved here.
-/
import Derived.Test.YtiidajnodhkidaaGreatRows
import Derived.Test.YtiidajnodhkidaaGreatAbsRules
import Derived.Test.YtiidajnodhkidaaGreatInsSt
set_option linter.unusedVariables false
set_option maxRecDepth 1000000
namespace Go.Proofs.YtiidajnodhkidaaGreat
open Go.Ab
def fns:List FuncId:=[4,7,8,9,10,11,12,13,14,15,16,17,18,19,20,21,22,23,24,37,38,39,40,41,42,43,44,45,46,47,48,49,50,51,52,53,54,55,69,70,71,72,73,74,75,76,77,78,79,80,81,82,83,84,85,86,87,88,89,105,106,107,108,109,110,111,112,113,114,115,116,117,118,119,120,121,122,123,124,125,126,127,128,145,146,147,148,149,152,153,154,155,156,157,158,159,160,161,173,175,176,177,178,179,180,181,182,183,184,185,186,187,188,193,194,195,196,197,198,202,203]
def keep:List FuncId:=[49,78,80,81,108,146,197]
def thr:List FuncId:=[112,145,194,195]
def memo:List (FuncId × List AV × AV):=[]
noncomputable def env:Env:=E8 Tryz.prog fns keep thr (Ln [(19,13,18),(16,1,77777),(55,1,88888)]) (wH [(15,12,0,[(20,23)]),(52,10,0,[(56,58)]),(49,9,0,[(6,50),(6,54)]),(81,5,9,[(82,8)]),(7,6,0,[(3,5)]),(13,5,4,[(3,2)]),(67,5,4,[(3,2)]),(14,5,3,[(15,2)]),(35,21,0,[(36,52),(37,52),(38,52),(41,52),(42,52),(43,52),(47,52),(48,52),(49,52)]),(145,8,4,[(148,2)]),(91,4,0,[(12,6)])]) (Sr [(19,13,18),(16,1,77777),(55,1,88888)]) memo (fun _=>false) (fun _=>none) (fun f args H=>if f=112 then qQ Tryz.prog 22 40 args H else none)
@[simp] noncomputable def Za(b:Bool)(h:Heap)(n:Nat)(n2:Nat)(a:List AV):=cl env b (limf env) (limt env 0) h (Ref.mk 0 n (Heap.gen h 0 n) 0) (some (AV.fn (Fn.func n2) [] [])) a
@[simp] noncomputable def Zb(h:Heap)(n:Nat)(v:AV):=ak env.P (Heap.get h) n (some v)
@[simp] noncomputable def Zc(n:Nat)(n2:Nat)(i:Int)(v:AV):=qBin env.P .neq n (Operand.tmp n2) (Operand.const (Value.int IntKind.i64 i)) (some v) (some (AV.v (Value.int IntKind.i64 i)))
@[simp] noncomputable def Zd(h:Heap)(n:Nat)(n2:Nat)(v:AV):=nRes h (Ref.mk 0 n (Heap.gen h 0 n) 0) (qBox env.P (Ref.mk 0 n (Heap.gen h 0 n) 0) n2 (some v))
@[simp] noncomputable def Ze(h:Heap)(n:Nat)(n2:Nat)(v:AV):=aw env.P false (Heap.get h) (Ref.mk 0 n (Heap.gen h 0 n) 0) .len #[n2] [v]
@[simp] noncomputable def Zf(h:Heap)(n:Nat)(n2:Nat):=nRes h (Ref.mk 0 n (Heap.gen h 0 n) 0) (bZ env.P (Ref.mk 0 n (Heap.gen h 0 n) 0) n2)
@[simp] noncomputable def Zg(n:Nat)(n2:Nat)(i:Int)(v:AV):=qBin env.P .add n (Operand.tmp n2) (Operand.const (Value.int IntKind.i64 i)) (some v) (some (AV.v (Value.int IntKind.i64 i)))
@[simp] noncomputable def Zh(n:Nat)(v:AV)(n2:Nat):=ab env.P n (some v) n2
@[simp] noncomputable def Zi(v:AV)(v2:AV):=bB (some v) (some v2) (some (AV.v (Value.bool false)))
@[simp] noncomputable def Zj(h:Heap)(n:Nat)(v:AV)(v2:AV):=au env.P h n (some v) (some v2)
@[simp] noncomputable def Zk(n:Nat)(n2:Nat)(i:Int)(v:AV):=qBin env.P .geq n (Operand.tmp n2) (Operand.const (Value.int IntKind.i64 i)) (some v) (some (AV.v (Value.int IntKind.i64 i)))
@[simp] noncomputable def Zl(n:Nat)(n2:Nat)(i:Int)(v:AV):=qBin env.P .eql n (Operand.tmp n2) (Operand.const (Value.int IntKind.i64 i)) (some v) (some (AV.v (Value.int IntKind.i64 i)))
@[simp] noncomputable def Zm(n:Nat)(n2:Nat)(i:Int)(v:AV):=qBin env.P .lss n (Operand.tmp n2) (Operand.const (Value.int IntKind.i64 i)) (some v) (some (AV.v (Value.int IntKind.i64 i)))
@[simp] noncomputable def Zn(v:AV)(v2:AV):=bB (some v) (some (AV.v (Value.bool true))) (some v2)
@[simp] noncomputable def Zo(n:Nat)(n2:Nat)(n3:Nat)(v:AV)(v2:AV):=qBin env.P .eql n (Operand.tmp n2) (Operand.tmp n3) (some v) (some v2)
@[simp] noncomputable def Zp(h:Heap)(n:Nat)(n2:Nat)(n3:Nat)(v:AV):=aW env.P (Heap.get h) (Ref.mk 0 n (Heap.gen h 0 n) 0) n2 n3 (some v)
@[simp] noncomputable def Zq(n:Nat)(n2:Nat)(n3:Nat)(v:AV)(v2:AV):=qBin env.P .lss n (Operand.tmp n2) (Operand.tmp n3) (some v) (some v2)
@[simp] noncomputable def Zr(n:Nat)(n2:Nat)(i:Int)(v:AV):=qBin env.P .gtr n (Operand.tmp n2) (Operand.const (Value.int IntKind.i64 i)) (some v) (some (AV.v (Value.int IntKind.i64 i)))
@[simp] noncomputable def Zs(n:Nat)(n2:Nat)(n3:Nat)(v:AV)(v2:AV):=qBin env.P .add n (Operand.tmp n2) (Operand.tmp n3) (some v) (some v2)
@[simp] noncomputable def Zt(h:Heap)(n:Nat)(n2:Nat)(n3:Nat)(v:AV)(v2:AV):=cE env.P true h (Ref.mk 0 n (Heap.gen h 0 n) 0) (some n2) (some n3) v v2
@[simp] noncomputable def Zu(h:Heap)(n:Nat)(v:AV)(v2:AV):=ax env.P (Heap.get h) n (some v) (some v2)
@[simp] noncomputable def Zv(h:Heap)(n:Nat)(v:AV)(i:Int):=ax env.P (Heap.get h) n (some v) (some (AV.v (Value.int IntKind.i64 i)))
@[simp] noncomputable def Zw(n:Nat)(n2:Nat)(i:Int)(v:AV):=qBin env.P .sub n (Operand.tmp n2) (Operand.const (Value.int IntKind.i64 i)) (some v) (some (AV.v (Value.int IntKind.i64 i)))
@[simp] noncomputable def Zx(v:AV)(n:Nat):=ao (some v) n
@[simp] noncomputable def Zy(h:Heap)(n:Nat)(n2:Nat)(n3:Nat)(n4:Nat)(v:AV):=ik env.P false true h (Ref.mk 0 n (Heap.gen h 0 n) 0) n2 n3 (some [(n4,v)])
@[simp] noncomputable def Zz(n:Nat)(n2:Nat)(n3:Nat)(v:AV)(v2:AV):=qBin env.P .neq n (Operand.tmp n2) (Operand.tmp n3) (some v) (some v2)
@[simp] noncomputable def ZA(h:Heap)(n:Nat)(v:AV)(v2:AV):=cl env true (limf env) (limt env 0) h (Ref.mk 0 n (Heap.gen h 0 n) 0) (some v) [v2]
@[simp] noncomputable def ZB(n:Nat):=bQ env.P n (some [])
@[simp] noncomputable def ZC(h:Heap)(n:Nat)(v:AV)(v2:AV):=cu env.P (Heap.get h) n (some v) (some none) (oi v2) (some none)
@[simp] noncomputable def ZD(h:Heap)(n:Nat)(v:AV)(v2:AV):=cu env.P (Heap.get h) n (some v) (oi v2) (some none) (some none)
@[simp] noncomputable def ZE(n:Nat)(n2:Nat)(n3:Nat)(v:AV)(v2:AV):=qBin env.P .sub n (Operand.tmp n2) (Operand.tmp n3) (some v) (some v2)
@[simp] noncomputable def ZF(n:Nat)(n2:Nat)(i:Int)(v:AV):=qBin env.P .leq n (Operand.tmp n2) (Operand.const (Value.int IntKind.i64 i)) (some v) (some (AV.v (Value.int IntKind.i64 i)))
@[simp] noncomputable def ZG(v:AV):=qUn env.P .not (some v)
@[simp] noncomputable def ZH(n:Nat)(i:Int)(n2:Nat)(v:AV):=qBin env.P .mul n (Operand.const (Value.int IntKind.i64 i)) (Operand.tmp n2) (some (AV.v (Value.int IntKind.i64 i))) (some v)
@[simp] noncomputable def ZI(v:AV):=qVal (some v)
@[simp] noncomputable def ZJ(h:Heap)(n:Nat)(n2:Nat)(v:AV):=aw env.P false (Heap.get h) (Ref.mk 0 n (Heap.gen h 0 n) 0) .cap #[n2] [v]
@[simp] noncomputable def ZK(h:Heap)(v:AV)(n:Nat):=aE env.P h v n
@[simp] noncomputable def ZL(n:Nat)(n2:Nat)(v:AV):=qBin env.P .shl n (Operand.tmp n2) (.const (.int .u64 8)) (some v) (some (.v (.int .u64 8)))
@[simp] noncomputable def ZM(n:Nat)(n2:Nat)(n3:Nat)(v:AV)(v2:AV):=qBin env.P .or n (Operand.tmp n2) (Operand.tmp n3) (some v) (some v2)
@[simp] noncomputable def ZN(h:Heap)(n:Nat)(n2:Nat)(i:Int):=nRes h (Ref.mk 0 n (Heap.gen h 0 n) 0) (sS env.P (Ref.mk 0 n (Heap.gen h 0 n) 0) n2 (some (AV.v (Value.int IntKind.i64 i))) (some (AV.v (Value.int IntKind.i64 i))))
@[simp] noncomputable def ZO(n:Nat)(i:Int)(n2:Nat)(v:AV):=qBin env.P .add n (Operand.const (Value.int IntKind.i64 i)) (Operand.tmp n2) (some (AV.v (Value.int IntKind.i64 i))) (some v)
@[simp] noncomputable def ZP(n:Nat)(n2:Nat)(i:Int)(v:AV):=qBin env.P .rem n (Operand.tmp n2) (Operand.const (Value.int IntKind.i64 i)) (some v) (some (AV.v (Value.int IntKind.i64 i)))
@[simp] noncomputable def ZQ(h:Heap)(n:Nat)(v:AV)(v2:AV)(v3:AV):=cl env true (limf env) (limt env 0) h (Ref.mk 0 n (Heap.gen h 0 n) 0) (some v) [v2,v3]
@[simp] noncomputable def ZR(h:Heap)(n:Nat)(n2:Nat)(n3:Nat)(v:AV):=aw env.P false (Heap.get h) (Ref.mk (n+1) n2 (Heap.gen h (n+1) n2) 0) .len #[n3] [v]
@[simp] noncomputable def ZS(n:Nat)(n2:Nat)(i:Int)(v:AV):=qBin env.P .mul n (Operand.tmp n2) (Operand.const (Value.int IntKind.i64 i)) (some v) (some (AV.v (Value.int IntKind.i64 i)))
@[simp] noncomputable def ZT(n:Nat)(n2:Nat)(v:AV):=qBin env.P .eql n (Operand.tmp n2) (.const (.int .u8 1)) (some v) (some (a8 1))
@[simp] noncomputable def ZU(n:Nat)(i:Int)(n2:Nat)(v:AV):=qBin env.P .sub n (Operand.const (Value.int IntKind.i64 i)) (Operand.tmp n2) (some (AV.v (Value.int IntKind.i64 i))) (some v)
@[simp] noncomputable def ZV(n:Nat)(n2:Nat)(n3:Nat)(v:AV)(v2:AV):=qBin env.P .gtr n (Operand.tmp n2) (Operand.tmp n3) (some v) (some v2)
@[simp] noncomputable def ZW(n:Nat)(n2:Nat)(v:AV):=qBin env.P .eql n (Operand.tmp n2) (.const (.int .u8 3)) (some v) (some (a8 3))
@[simp] noncomputable def ZX(n:Nat)(n2:Nat)(v:AV):=qBin env.P .shr n (Operand.tmp n2) (.const (.int .u64 8)) (some v) (some (.v (.int .u64 8)))
@[simp] noncomputable def ZY(n:Nat)(n2:Nat)(n3:Nat)(v:AV)(v2:AV):=qBin env.P .shr n (Operand.tmp n2) (Operand.tmp n3) (some v) (some v2)
@[simp] noncomputable def ZZ(h:Heap)(n:Nat)(v:AV):=au env.P h n (some v) (some (.v (.slice none 0 0)))
@[simp] noncomputable def Z0(n:Nat)(n2:Nat)(v:AV):=bQ env.P n (some [(n2,v)])
@[simp] noncomputable def Z1(n:Nat):=qH env.P n (some (.v (.string ⟨#[99,97,110,110,111,116,32,98,101,32,110,101,103,97,116,105,118,101]⟩)))
@[simp] noncomputable def Z2(h:Heap)(n:Nat)(n2:Nat)(n3:Nat):=nRes h (Ref.mk (n+1) n2 (Heap.gen h (n+1) n2) 0) (bZ env.P (Ref.mk (n+1) n2 (Heap.gen h (n+1) n2) 0) n3)
@[simp] noncomputable def Z3(n:Nat):=qH env.P n (some (.v (.string ⟨#[108,101,110,32,111,117,116,32,111,102,32,114,97,110,103,101]⟩)))
@[simp] noncomputable def Z4(h:Heap)(n:Nat)(n2:Nat)(n3:Nat)(n4:Nat)(v:AV)(n5:Nat)(v2:AV):=ik env.P true false h (Ref.mk 0 n (Heap.gen h 0 n) 0) n2 n3 (some [(n4,v),(n5,v2)])
@[simp] noncomputable def Z5(h:Heap)(n:Nat)(v:AV):=cl env true (limf env) (limt env 0) h (Ref.mk 0 n (Heap.gen h 0 n) 0) (some v) [(.v (.int .i64 1))]
@[simp] noncomputable def Z6(v:AV):=qNil (some v)
@[simp] noncomputable def Z7(n:Nat)(n2:Nat)(v:AV):=qBin env.P .eql n (Operand.tmp n2) (.const (.slice none 0 0)) (some v) (some (.v (.slice none 0 0)))
@[simp] noncomputable def Z8(n:Nat)(n2:Nat)(v:AV):=qBin env.P .lss n (Operand.tmp n2) (.const (.int .i64 (-1))) (some v) (some (.v (.int .i64 (-1))))
@[simp] noncomputable def Z9(n:Nat)(n2:Nat)(v:AV):=qBin env.P .shr n (Operand.tmp n2) (.const (.int .u64 16)) (some v) (some (.v (.int .u64 16)))
@[simp] noncomputable def Ye(n:Nat)(n2:Nat)(v:AV):=qBin env.P .shl n (Operand.tmp n2) (.const (.int .u64 16)) (some v) (some (.v (.int .u64 16)))
@[simp] noncomputable def Yf(h:Heap)(n:Nat)(v:AV):=cu env.P (Heap.get h) n (some v) (oi (.v (.int .i64 1))) (oi (.v (.int .i64 5))) (some none)
@[simp] noncomputable def Yg(n:Nat)(n2:Nat)(v:AV)(n3:Nat)(v2:AV):=bQ env.P n (some [(n2,v),(n3,v2)])
theorem Ko:MQ env fns=true:=by kernel_rfl
@[simp] theorem XX{f:FuncId}(h:thr.contains f=false):(env.mode f == 2)=false:=by
 show((if keep.contains f then 1 else if thr.contains f then 2 else 0) == 2)=false
 rw[h]
 split<;>rfl
theorem W9{f:FuncId}(h:keep.contains f=false):(env.mode f == 1)=false:=by
 show((if keep.contains f then 1 else if thr.contains f then 2 else 0) == 1)=false
 rw[h]
 cases thr.contains f<;>rfl
@[simp] theorem Xh{f:FuncId}(h:keep.contains f=false)(x:AV)(H:Heap)(y:AV):ia env f x H y↔view H.get depth x=some y:=Kb (W9 h) x H y
theorem W8{f:FuncId}(h:keep.contains f=true):(env.mode f == 1)=true:=by
 show((if keep.contains f then 1 else if thr.contains f then 2 else 0) == 1)=true
 rw[h];rfl
@[simp] theorem Xg{f:FuncId}(h:keep.contains f=true)(x:AV)(H:Heap)(y:AV):ia env f x H y↔(aG H.get depth x).Nodup∧dU H.get depth x=some y:=EM (W8 h) x H y
@[simp] theorem Oz:bm env.P 3=(some 1):=by kernel_rfl
@[simp] theorem Sq:tagg env.P 3=(some false):=by kernel_rfl
@[simp] theorem Ov:fF env.P 3=(some (.v (.int .i64 0))):=by kernel_rfl
@[simp] theorem PL:mK env.P 3=(some 1):=by kernel_rfl
@[simp] theorem PO:isInt env.P 3=true:=by kernel_rfl
@[simp] theorem J2:intKind env.P 3=(some .i64):=by kernel_rfl
@[simp] theorem R0:(env.P.underlying 3).isNone=false:=by kernel_rfl
@[simp] theorem Oy:bm env.P 4=(some 1):=by kernel_rfl
@[simp] theorem Sp:tagg env.P 4=(some false):=by kernel_rfl
@[simp] theorem PK:mK env.P 4=(some 0):=by kernel_rfl
@[simp] theorem MG:isBool env.P 4=true:=by kernel_rfl
@[simp] theorem Ox:bm env.P 5=(some 1):=by kernel_rfl
@[simp] theorem So:tagg env.P 5=(some false):=by kernel_rfl
@[simp] theorem PJ:mK env.P 5=(some 1):=by kernel_rfl
@[simp] theorem J1:intKind env.P 5=(some .u8):=by kernel_rfl
@[simp] theorem RZ:(env.P.underlying 5).isNone=false:=by kernel_rfl
@[simp] theorem Xc:isStr env.P 9=true:=by kernel_rfl
@[simp] theorem Lj:bm env.P 21=(some 1):=by kernel_rfl
@[simp] theorem OG:tagg env.P 21=(some false):=by kernel_rfl
@[simp] theorem Rv:intKind env.P 21=(some .i32):=by kernel_rfl
@[simp] theorem V8:(env.P.underlying 21).isNone=false:=by kernel_rfl
@[simp] theorem Li:bm env.P 22=(some 1):=by kernel_rfl
@[simp] theorem OF:tagg env.P 22=(some false):=by kernel_rfl
@[simp] theorem FI:eA env.P 22=(some 78):=by kernel_rfl
@[simp] theorem OC:tarr env.P 22=none:=by kernel_rfl
@[simp] theorem MD:isStr env.P 22=false:=by kernel_rfl
@[simp] theorem Uh:apT env.P 22=true:=by kernel_rfl
@[simp] theorem QL:elOk env.P 22=true:=by kernel_rfl
@[simp] theorem TZ:elZ env.P 22=2:=by kernel_rfl
@[simp] theorem QN:elBy env.P 22=32:=by kernel_rfl
@[simp] theorem Kx:gq env.P 22=(.agg [(.v (.int .i64 0)),(.v (.slice none 0 0))]):=by kernel_rfl
@[simp] theorem UT:bm env.P 24=(some 4):=by kernel_rfl
@[simp] theorem WC:tagg env.P 24=(some true):=by kernel_rfl
@[simp] theorem Wo:tarr env.P 24=none:=by kernel_rfl
@[simp] theorem UE:fF env.P 24=(some (.agg [(.v (.slice none 0 0)),(.v (.int .i64 0)),(.v (.int .i64 0)),(.v (.bool false))])):=by kernel_rfl
@[simp] theorem E6:fD env.P 24=(some [22,3,3,4]):=by kernel_rfl
@[simp] theorem Tf:fk env.P 24=(some [(0,1),(1,1),(2,1),(3,1)]):=by kernel_rfl
@[simp] theorem QE:aJ env.P 24 0=(some (0,1)):=by kernel_rfl
@[simp] theorem Qs:aJ env.P 24 1=(some (1,1)):=by kernel_rfl
@[simp] theorem Qh:aJ env.P 24 2=(some (2,1)):=by kernel_rfl
@[simp] theorem Qd:aJ env.P 24 3=(some (3,1)):=by kernel_rfl
@[simp] theorem US:bm env.P 25=(some 1):=by kernel_rfl
@[simp] theorem WB:tagg env.P 25=(some false):=by kernel_rfl
@[simp] theorem FH:eA env.P 25=(some 51):=by kernel_rfl
@[simp] theorem Wn:tarr env.P 25=none:=by kernel_rfl
@[simp] theorem VC:isStr env.P 25=false:=by kernel_rfl
@[simp] theorem X9:apT env.P 25=true:=by kernel_rfl
@[simp] theorem XA:elOk env.P 25=true:=by kernel_rfl
@[simp] theorem X2:elZ env.P 25=24:=by kernel_rfl
@[simp] theorem XC:elBy env.P 25=160:=by kernel_rfl
@[simp] theorem TX:gq env.P 25=(.agg [(a8 0),(.v (.int .i64 0)),(a8 0),(a8 0),(a32 0),(a8 0),(.v (.int .i64 0)),(a8 0),(a32 0),(a8 0),(.v (.int .i64 0)),(.v (.int .i64 0)),(a8 0),(a32 0),(a8 0),(.v (.int .i64 0)),(a8 0),(a32 0),(.v (.slice none 0 0)),(.v (.int .i64 0)),(.v (.int .i64 0)),(a8 0),(a32 0),(.v (.bool false))]):=by kernel_rfl
@[simp] theorem UR:bm env.P 27=(some 2):=by kernel_rfl
@[simp] theorem WA:tagg env.P 27=(some true):=by kernel_rfl
@[simp] theorem Wm:tarr env.P 27=none:=by kernel_rfl
@[simp] theorem UD:fF env.P 27=(some (.agg [(.v (.int .i64 0)),(.v (.int .i64 0))])):=by kernel_rfl
@[simp] theorem VA:mK env.P 27=none:=by kernel_rfl
@[simp] theorem Xw:eqTy env.P 27=true:=by kernel_rfl
@[simp] theorem E5:fD env.P 27=(some [3,3]):=by kernel_rfl
@[simp] theorem Te:fk env.P 27=(some [(0,1),(1,1)]):=by kernel_rfl
@[simp] theorem QD:aJ env.P 27 0=(some (0,1)):=by kernel_rfl
@[simp] theorem Qr:aJ env.P 27 1=(some (1,1)):=by kernel_rfl
@[simp] theorem UQ:bm env.P 29=(some 8):=by kernel_rfl
@[simp] theorem Wz:tagg env.P 29=(some true):=by kernel_rfl
@[simp] theorem Wl:tarr env.P 29=none:=by kernel_rfl
@[simp] theorem UC:fF env.P 29=(some (.agg [(.v (.slice none 0 0)),(.v (.int .i64 0)),(.v (.int .i64 0)),(.v (.bool false)),(.v (.slice none 0 0)),(.v (.int .i64 0)),(.v (.int .i64 0)),(.v (.int .i64 0))])):=by kernel_rfl
@[simp] theorem E4:fD env.P 29=(some [24,25,27,3]):=by kernel_rfl
@[simp] theorem Td:fk env.P 29=(some [(0,4),(4,1),(5,2),(7,1)]):=by kernel_rfl
@[simp] theorem QC:aJ env.P 29 0=(some (0,4)):=by kernel_rfl
@[simp] theorem Qq:aJ env.P 29 1=(some (4,1)):=by kernel_rfl
@[simp] theorem Qg:aJ env.P 29 2=(some (5,2)):=by kernel_rfl
@[simp] theorem Qc:aJ env.P 29 3=(some (7,1)):=by kernel_rfl
@[simp] theorem UP:bm env.P 30=(some 1):=by kernel_rfl
@[simp] theorem Wy:tagg env.P 30=(some false):=by kernel_rfl
@[simp] theorem Rt:intKind env.P 30=(some .i64):=by kernel_rfl
@[simp] theorem V7:(env.P.underlying 30).isNone=false:=by kernel_rfl
@[simp] theorem UO:bm env.P 34=(some 1):=by kernel_rfl
@[simp] theorem Wx:tagg env.P 34=(some false):=by kernel_rfl
@[simp] theorem Vz:mK env.P 34=(some 1):=by kernel_rfl
@[simp] theorem Rs:intKind env.P 34=(some .u32):=by kernel_rfl
@[simp] theorem V6:(env.P.underlying 34).isNone=false:=by kernel_rfl
@[simp] theorem UN:bm env.P 36=(some 2):=by kernel_rfl
@[simp] theorem Ww:tagg env.P 36=(some true):=by kernel_rfl
@[simp] theorem Wk:tarr env.P 36=none:=by kernel_rfl
@[simp] theorem UB:fF env.P 36=(some (.agg [(a8 0),(a32 0)])):=by kernel_rfl
@[simp] theorem Vy:mK env.P 36=none:=by kernel_rfl
@[simp] theorem Xv:eqTy env.P 36=true:=by kernel_rfl
@[simp] theorem E3:fD env.P 36=(some [5,34]):=by kernel_rfl
@[simp] theorem Tc:fk env.P 36=(some [(0,1),(1,1)]):=by kernel_rfl
@[simp] theorem QB:aJ env.P 36 0=(some (0,1)):=by kernel_rfl
@[simp] theorem Qp:aJ env.P 36 1=(some (1,1)):=by kernel_rfl
@[simp] theorem UM:bm env.P 38=(some 3):=by kernel_rfl
@[simp] theorem Wv:tagg env.P 38=(some true):=by kernel_rfl
@[simp] theorem Wj:tarr env.P 38=none:=by kernel_rfl
@[simp] theorem UA:fF env.P 38=(some (.agg [(a8 0),(a32 0),(a8 0)])):=by kernel_rfl
@[simp] theorem Vx:mK env.P 38=none:=by kernel_rfl
@[simp] theorem Xu:eqTy env.P 38=true:=by kernel_rfl
@[simp] theorem E2:fD env.P 38=(some [36,5]):=by kernel_rfl
@[simp] theorem Tb:fk env.P 38=(some [(0,2),(2,1)]):=by kernel_rfl
@[simp] theorem QA:aJ env.P 38 0=(some (0,2)):=by kernel_rfl
@[simp] theorem Qo:aJ env.P 38 1=(some (2,1)):=by kernel_rfl
@[simp] theorem UL:bm env.P 40=(some 4):=by kernel_rfl
@[simp] theorem Wu:tagg env.P 40=(some true):=by kernel_rfl
@[simp] theorem Wi:tarr env.P 40=none:=by kernel_rfl
@[simp] theorem Uz:fF env.P 40=(some (.agg [(a8 0),(a32 0),(a8 0),(.v (.int .i64 0))])):=by kernel_rfl
@[simp] theorem Vw:mK env.P 40=none:=by kernel_rfl
@[simp] theorem Xt:eqTy env.P 40=true:=by kernel_rfl
@[simp] theorem E1:fD env.P 40=(some [38,3]):=by kernel_rfl
@[simp] theorem Ta:fk env.P 40=(some [(0,3),(3,1)]):=by kernel_rfl
@[simp] theorem Qz:aJ env.P 40 0=(some (0,3)):=by kernel_rfl
@[simp] theorem Qn:aJ env.P 40 1=(some (3,1)):=by kernel_rfl
@[simp] theorem UK:bm env.P 42=(some 5):=by kernel_rfl
@[simp] theorem Wt:tagg env.P 42=(some true):=by kernel_rfl
@[simp] theorem Vv:mK env.P 42=none:=by kernel_rfl
@[simp] theorem Xs:eqTy env.P 42=true:=by kernel_rfl
@[simp] theorem E0:fD env.P 42=(some [40,3]):=by kernel_rfl
@[simp] theorem Qy:aJ env.P 42 0=(some (0,4)):=by kernel_rfl
@[simp] theorem Qm:aJ env.P 42 1=(some (4,1)):=by kernel_rfl
@[simp] theorem UJ:bm env.P 43=(some 1):=by kernel_rfl
@[simp] theorem Ws:tagg env.P 43=(some false):=by kernel_rfl
@[simp] theorem Ll:eA env.P 43=(some 21):=by kernel_rfl
@[simp] theorem Wh:tarr env.P 43=none:=by kernel_rfl
@[simp] theorem VB:isStr env.P 43=false:=by kernel_rfl
@[simp] theorem Uy:fF env.P 43=(some (.v (.slice none 0 0))):=by kernel_rfl
@[simp] theorem X8:apT env.P 43=true:=by kernel_rfl
@[simp] theorem Xz:elOk env.P 43=true:=by kernel_rfl
@[simp] theorem X1:elZ env.P 43=1:=by kernel_rfl
@[simp] theorem XB:elBy env.P 43=4:=by kernel_rfl
@[simp] theorem TW:gq env.P 43=(.v (.int .i32 0)):=by kernel_rfl
@[simp] theorem UI:bm env.P 45=(some 17):=by kernel_rfl
@[simp] theorem Wr:tagg env.P 45=(some true):=by kernel_rfl
@[simp] theorem Wg:tarr env.P 45=none:=by kernel_rfl
@[simp] theorem Ux:fF env.P 45=(some (.agg [(a8 0),(a8 0),(a32 0),(a8 0),(.v (.int .i64 0)),(a8 0),(a32 0),(a8 0),(.v (.int .i64 0)),(.v (.int .i64 0)),(a8 0),(a32 0),(a8 0),(.v (.int .i64 0)),(a8 0),(a32 0),(.v (.slice none 0 0))])):=by kernel_rfl
@[simp] theorem EZ:fD env.P 45=(some [5,38,3,42,40,36,43]):=by kernel_rfl
@[simp] theorem S9:fk env.P 45=(some [(0,1),(1,3),(4,1),(5,5),(10,4),(14,2),(16,1)]):=by kernel_rfl
@[simp] theorem Qx:aJ env.P 45 0=(some (0,1)):=by kernel_rfl
@[simp] theorem Ql:aJ env.P 45 1=(some (1,3)):=by kernel_rfl
@[simp] theorem Qf:aJ env.P 45 2=(some (4,1)):=by kernel_rfl
@[simp] theorem Qb:aJ env.P 45 3=(some (5,5)):=by kernel_rfl
@[simp] theorem P9:aJ env.P 45 4=(some (10,4)):=by kernel_rfl
@[simp] theorem P7:aJ env.P 45 5=(some (14,2)):=by kernel_rfl
@[simp] theorem P6:aJ env.P 45 6=(some (16,1)):=by kernel_rfl
@[simp] theorem UH:bm env.P 47=(some 3):=by kernel_rfl
@[simp] theorem Wf:tarr env.P 47=none:=by kernel_rfl
@[simp] theorem Uw:fF env.P 47=(some (.agg [(a8 0),(a32 0),(.v (.bool false))])):=by kernel_rfl
@[simp] theorem Vu:mK env.P 47=none:=by kernel_rfl
@[simp] theorem EY:fD env.P 47=(some [36,4]):=by kernel_rfl
@[simp] theorem S8:fk env.P 47=(some [(0,2),(2,1)]):=by kernel_rfl
@[simp] theorem Qw:aJ env.P 47 0=(some (0,2)):=by kernel_rfl
@[simp] theorem Qk:aJ env.P 47 1=(some (2,1)):=by kernel_rfl
@[simp] theorem UG:bm env.P 49=(some 4):=by kernel_rfl
@[simp] theorem Wq:tagg env.P 49=(some true):=by kernel_rfl
@[simp] theorem We:tarr env.P 49=none:=by kernel_rfl
@[simp] theorem Uv:fF env.P 49=(some (.agg [(.v (.int .i64 0)),(a8 0),(a32 0),(.v (.bool false))])):=by kernel_rfl
@[simp] theorem Vt:mK env.P 49=none:=by kernel_rfl
@[simp] theorem Xr:eqTy env.P 49=true:=by kernel_rfl
@[simp] theorem EX:fD env.P 49=(some [3,47]):=by kernel_rfl
@[simp] theorem S7:fk env.P 49=(some [(0,1),(1,3)]):=by kernel_rfl
@[simp] theorem Qv:aJ env.P 49 0=(some (0,1)):=by kernel_rfl
@[simp] theorem Qj:aJ env.P 49 1=(some (1,3)):=by kernel_rfl
@[simp] theorem FF:bm env.P 51=(some 24):=by kernel_rfl
@[simp] theorem Ir:tagg env.P 51=(some true):=by kernel_rfl
@[simp] theorem Wd:tarr env.P 51=none:=by kernel_rfl
@[simp] theorem Uu:fF env.P 51=(some (.agg [(a8 0),(.v (.int .i64 0)),(a8 0),(a8 0),(a32 0),(a8 0),(.v (.int .i64 0)),(a8 0),(a32 0),(a8 0),(.v (.int .i64 0)),(.v (.int .i64 0)),(a8 0),(a32 0),(a8 0),(.v (.int .i64 0)),(a8 0),(a32 0),(.v (.slice none 0 0)),(.v (.int .i64 0)),(.v (.int .i64 0)),(a8 0),(a32 0),(.v (.bool false))])):=by kernel_rfl
@[simp] theorem EW:fD env.P 51=(some [5,3,45,30,49]):=by kernel_rfl
@[simp] theorem S6:fk env.P 51=(some [(0,1),(1,1),(2,17),(19,1),(20,4)]):=by kernel_rfl
@[simp] theorem Qu:aJ env.P 51 0=(some (0,1)):=by kernel_rfl
@[simp] theorem Qi:aJ env.P 51 1=(some (1,1)):=by kernel_rfl
@[simp] theorem Qe:aJ env.P 51 2=(some (2,17)):=by kernel_rfl
@[simp] theorem Qa:aJ env.P 51 3=(some (19,1)):=by kernel_rfl
@[simp] theorem P8:aJ env.P 51 4=(some (20,4)):=by kernel_rfl
@[simp] theorem Lh:bm env.P 76=(some 1):=by kernel_rfl
@[simp] theorem OE:tagg env.P 76=(some false):=by kernel_rfl
@[simp] theorem Lk:eA env.P 76=(some 5):=by kernel_rfl
@[simp] theorem OB:tarr env.P 76=none:=by kernel_rfl
@[simp] theorem MC:isStr env.P 76=false:=by kernel_rfl
@[simp] theorem Ug:apT env.P 76=true:=by kernel_rfl
@[simp] theorem QK:elOk env.P 76=true:=by kernel_rfl
@[simp] theorem TY:elZ env.P 76=1:=by kernel_rfl
@[simp] theorem QM:elBy env.P 76=1:=by kernel_rfl
@[simp] theorem Kw:gq env.P 76=(a8 0):=by kernel_rfl
@[simp] theorem MF:dm env.P 76=true:=by kernel_rfl
@[simp] theorem FE:bm env.P 78=(some 2):=by kernel_rfl
@[simp] theorem Iq:tagg env.P 78=(some true):=by kernel_rfl
@[simp] theorem OA:tarr env.P 78=none:=by kernel_rfl
@[simp] theorem Lg:fF env.P 78=(some (.agg [(.v (.int .i64 0)),(.v (.slice none 0 0))])):=by kernel_rfl
@[simp] theorem Ip:kr env.P 78=(some 32):=by kernel_rfl
@[simp] theorem xW:fD env.P 78=(some [3,76]):=by kernel_rfl
@[simp] theorem Jy:fk env.P 78=(some [(0,1),(1,1)]):=by kernel_rfl
@[simp] theorem EU:aJ env.P 78 0=(some (0,1)):=by kernel_rfl
@[simp] theorem ET:aJ env.P 78 1=(some (1,1)):=by kernel_rfl
@[simp] theorem UF:bm env.P 92=(some 8):=by kernel_rfl
@[simp] theorem Wp:tagg env.P 92=(some true):=by kernel_rfl
@[simp] theorem Wc:tarr env.P 92=none:=by kernel_rfl
@[simp] theorem Ut:fF env.P 92=(some (.agg [(.v (.slice none 0 0)),(.v (.int .i64 0)),(.v (.int .i64 0)),(.v (.bool false)),(.v (.slice none 0 0)),(.v (.int .i64 0)),(.v (.int .i64 0)),(.v (.int .i64 0))])):=by kernel_rfl
@[simp] theorem S5:fk env.P 92=(some [(0,8)]):=by kernel_rfl
@[simp] theorem Qt:aJ env.P 92 0=(some (0,8)):=by kernel_rfl
@[simp] theorem Si:bm env.P 107=(some 24):=by kernel_rfl
@[simp] theorem U4:tarr env.P 107=none:=by kernel_rfl
@[simp] theorem R7:fF env.P 107=(some (.agg [(a8 0),(.v (.int .i64 0)),(a8 0),(a8 0),(a32 0),(a8 0),(.v (.int .i64 0)),(a8 0),(a32 0),(a8 0),(.v (.int .i64 0)),(.v (.int .i64 0)),(a8 0),(a32 0),(a8 0),(.v (.int .i64 0)),(a8 0),(a32 0),(.v (.slice none 0 0)),(.v (.int .i64 0)),(.v (.int .i64 0)),(a8 0),(a32 0),(.v (.bool false))])):=by kernel_rfl
@[simp] theorem Rm:fk env.P 107=(some [(0,24)]):=by kernel_rfl
@[simp] theorem N6:aJ env.P 107 0=(some (0,24)):=by kernel_rfl
@[simp] theorem Sh:bm env.P 122=(some 1):=by kernel_rfl
@[simp] theorem U9:tagg env.P 122=(some false):=by kernel_rfl
@[simp] theorem Sn:eA env.P 122=(some 76):=by kernel_rfl
@[simp] theorem U3:tarr env.P 122=none:=by kernel_rfl
@[simp] theorem Ty:isStr env.P 122=false:=by kernel_rfl
@[simp] theorem R6:fF env.P 122=(some (.v (.slice none 0 0))):=by kernel_rfl
@[simp] theorem XM:apT env.P 122=true:=by kernel_rfl
@[simp] theorem VL:elOk env.P 122=true:=by kernel_rfl
@[simp] theorem Xy:elZ env.P 122=1:=by kernel_rfl
@[simp] theorem VM:elBy env.P 122=24:=by kernel_rfl
@[simp] theorem RH:gq env.P 122=(.v (.slice none 0 0)):=by kernel_rfl
@[simp] theorem Sg:bm env.P 132=(some 4):=by kernel_rfl
@[simp] theorem U8:tagg env.P 132=(some true):=by kernel_rfl
@[simp] theorem U0:tarr env.P 132=none:=by kernel_rfl
@[simp] theorem R5:fF env.P 132=(some (.agg [(.v (.int .i64 0)),(.v (.int .i64 0)),(.v (.int .i64 0)),(.v (.int .i64 0))])):=by kernel_rfl
@[simp] theorem Rl:fk env.P 132=(some [(0,1),(1,1),(2,1),(3,1)]):=by kernel_rfl
@[simp] theorem N5:aJ env.P 132 0=(some (0,1)):=by kernel_rfl
@[simp] theorem N0:aJ env.P 132 1=(some (1,1)):=by kernel_rfl
@[simp] theorem NX:aJ env.P 132 2=(some (2,1)):=by kernel_rfl
@[simp] theorem NV:aJ env.P 132 3=(some (3,1)):=by kernel_rfl
@[simp] theorem Sm:eA env.P 139=(some 25):=by kernel_rfl
@[simp] theorem UZ:tarr env.P 139=none:=by kernel_rfl
@[simp] theorem Tx:isStr env.P 139=false:=by kernel_rfl
@[simp] theorem VK:elOk env.P 139=true:=by kernel_rfl
@[simp] theorem Xx:elZ env.P 139=1:=by kernel_rfl
@[simp] theorem RG:gq env.P 139=(.v (.slice none 0 0)):=by kernel_rfl
@[simp] theorem Sf:bm env.P 144=(some 1):=by kernel_rfl
@[simp] theorem U7:tagg env.P 144=(some false):=by kernel_rfl
@[simp] theorem PQ:intKind env.P 145=(some .u64):=by kernel_rfl
@[simp] theorem Up:(env.P.underlying 145).isNone=false:=by kernel_rfl
@[simp] theorem Se:bm env.P 178=(some 4):=by kernel_rfl
@[simp] theorem Sk:eA env.P 178=none:=by kernel_rfl
@[simp] theorem UY:tarr env.P 178=(some (2,27)):=by kernel_rfl
@[simp] theorem R4:fF env.P 178=(some (.agg [(.v (.int .i64 0)),(.v (.int .i64 0)),(.v (.int .i64 0)),(.v (.int .i64 0))])):=by kernel_rfl
@[simp] theorem Sd:bm env.P 218=(some 2):=by kernel_rfl
@[simp] theorem U6:tagg env.P 218=(some true):=by kernel_rfl
@[simp] theorem Nu:pZ env.P 218 0=(some (0,144)):=by kernel_rfl
@[simp] theorem UX:tarr env.P 219=(some (4,218)):=by kernel_rfl
@[simp] theorem Sc:bm env.P 248=(some 4):=by kernel_rfl
@[simp] theorem U5:tagg env.P 248=(some true):=by kernel_rfl
@[simp] theorem UW:tarr env.P 248=none:=by kernel_rfl
@[simp] theorem R3:fF env.P 248=(some (.agg [(a8 0),(a32 0),(a8 0),(.v (.int .i64 0))])):=by kernel_rfl
@[simp] theorem Rk:fk env.P 248=(some [(0,3),(3,1)]):=by kernel_rfl
@[simp] theorem Nt:pZ env.P 248 0=(some (0,38)):=by kernel_rfl
@[simp] theorem N4:aJ env.P 248 0=(some (0,3)):=by kernel_rfl
@[simp] theorem NZ:aJ env.P 248 1=(some (3,1)):=by kernel_rfl
@[simp] theorem Sb:bm env.P 252=(some 3):=by kernel_rfl
@[simp] theorem UU:tarr env.P 252=none:=by kernel_rfl
@[simp] theorem R2:fF env.P 252=(some (.agg [(.v (.slice none 0 0)),(.v (.int .i64 0)),(.v (.bool false))])):=by kernel_rfl
@[simp] theorem Rj:fk env.P 252=(some [(0,1),(1,1),(2,1)]):=by kernel_rfl
@[simp] theorem N3:aJ env.P 252 0=(some (0,1)):=by kernel_rfl
@[simp] theorem NY:aJ env.P 252 1=(some (1,1)):=by kernel_rfl
@[simp] theorem NW:aJ env.P 252 2=(some (2,1)):=by kernel_rfl
end Go.Proofs.YtiidajnodhkidaaGreat
