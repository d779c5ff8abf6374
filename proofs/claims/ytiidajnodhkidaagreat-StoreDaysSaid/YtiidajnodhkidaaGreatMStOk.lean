/-
  The facts on the program's types, computed. No statement of a seat is proved here.
-/
import Derived.Test.YtiidajnodhkidaaGreatRows
import Derived.Test.YtiidajnodhkidaaGreatAbsRules
import Derived.Test.YtiidajnodhkidaaGreatInsSt
set_option linter.unusedVariables false
set_option maxRecDepth 1000000
namespace Go.Proofs.YtiidajnodhkidaaGreat
open Go.Ab
def fns:List FuncId:=[4,7,8,9,10,11,12,13,14,15,16,17,18,19,20,21,22,23,24,37,38,39,40,41,42,43,44,45,46,47,48,49,50,51,52,53,54,55,69,70,71,72,73,74,75,76,77,78,79,80,81,82,83,84,85,86,87,88,89,105,106,107,108,109,110,111,112,113,114,115,116,117,118,119,120,121,122,123,124,125,126,127,128,145,146,147,148,149,152,153,154,155,156,157,158,159,160,161,173,175,176,177,178,179,180,181,182,183,184,185,186,187,188,193,194,195,196,197,198,202,203]
def keep:List FuncId:=[49,78,80,81,108,146,197]
def thr:List FuncId:=[112,145,194,195]
def memo:List (FuncId × List AV × AV):=[]
noncomputable def env:Env:=Fa Tryz.prog fns keep thr (Lp [(19,13,18),(16,1,77777),(55,1,88888)]) (wI [(15,12,0,[(20,23)]),(52,10,0,[(56,58)]),(49,9,0,[(6,50),(6,54)]),(81,5,9,[(82,8)]),(7,6,0,[(3,5)]),(13,5,4,[(3,2)]),(67,5,4,[(3,2)]),(14,5,3,[(15,2)]),(35,21,0,[(36,52),(37,52),(38,52),(41,52),(42,52),(43,52),(47,52),(48,52),(49,52)]),(145,8,4,[(148,2)]),(91,4,0,[(12,6)])]) (SF [(19,13,18),(16,1,77777),(55,1,88888)]) memo (fun _=>false) (fun _=>none) (fun f args H=>if f=112 then qJ Tryz.prog 22 40 args H else none)
@[simp] noncomputable def Za(b:Bool)(h:Heap)(n:Nat)(n2:Nat)(a:List AV):=cr env b (limf env) (limt env 0) h (Ref.mk 0 n (Heap.gen h 0 n) 0) (some (AV.fn (Fn.func n2) [] [])) a
@[simp] noncomputable def Zb(h:Heap)(n:Nat)(v:AV):=ak env.P (Heap.get h) n (some v)
@[simp] noncomputable def Zc(n:Nat)(n2:Nat)(i:Int)(v:AV):=qBin env.P .neq n (Operand.tmp n2) (Operand.const (Value.int IntKind.i64 i)) (some v) (some (AV.v (Value.int IntKind.i64 i)))
@[simp] noncomputable def Zd(h:Heap)(n:Nat)(n2:Nat)(v:AV):=nRes h (Ref.mk 0 n (Heap.gen h 0 n) 0) (qBox env.P (Ref.mk 0 n (Heap.gen h 0 n) 0) n2 (some v))
@[simp] noncomputable def Ze(n:Nat)(n2:Nat)(i:Int)(v:AV):=qBin env.P .add n (Operand.tmp n2) (Operand.const (Value.int IntKind.i64 i)) (some v) (some (AV.v (Value.int IntKind.i64 i)))
@[simp] noncomputable def Zf(h:Heap)(n:Nat)(n2:Nat):=nRes h (Ref.mk 0 n (Heap.gen h 0 n) 0) (bW env.P (Ref.mk 0 n (Heap.gen h 0 n) 0) n2)
@[simp] noncomputable def Zg(h:Heap)(n:Nat)(n2:Nat)(v:AV):=az env.P false (Heap.get h) (Ref.mk 0 n (Heap.gen h 0 n) 0) .len #[n2] [v]
@[simp] noncomputable def Zh(n:Nat)(v:AV)(n2:Nat):=ab env.P n (some v) n2
@[simp] noncomputable def Zi(v:AV)(v2:AV):=bn (some v) (some v2) (some (AV.v (Value.bool false)))
@[simp] noncomputable def Zj(h:Heap)(n:Nat)(v:AV)(v2:AV):=ax env.P h n (some v) (some v2)
@[simp] noncomputable def Zk(n:Nat)(n2:Nat)(i:Int)(v:AV):=qBin env.P .geq n (Operand.tmp n2) (Operand.const (Value.int IntKind.i64 i)) (some v) (some (AV.v (Value.int IntKind.i64 i)))
@[simp] noncomputable def Zl(n:Nat)(n2:Nat)(i:Int)(v:AV):=qBin env.P .eql n (Operand.tmp n2) (Operand.const (Value.int IntKind.i64 i)) (some v) (some (AV.v (Value.int IntKind.i64 i)))
@[simp] noncomputable def Zm(v:AV)(v2:AV):=bn (some v) (some (AV.v (Value.bool true))) (some v2)
@[simp] noncomputable def Zn(n:Nat)(n2:Nat)(i:Int)(v:AV):=qBin env.P .lss n (Operand.tmp n2) (Operand.const (Value.int IntKind.i64 i)) (some v) (some (AV.v (Value.int IntKind.i64 i)))
@[simp] noncomputable def Zo(n:Nat)(n2:Nat)(n3:Nat)(v:AV)(v2:AV):=qBin env.P .eql n (Operand.tmp n2) (Operand.tmp n3) (some v) (some v2)
@[simp] noncomputable def Zp(h:Heap)(n:Nat)(n2:Nat)(n3:Nat)(v:AV):=aX env.P (Heap.get h) (Ref.mk 0 n (Heap.gen h 0 n) 0) n2 n3 (some v)
@[simp] noncomputable def Zq(n:Nat)(n2:Nat)(n3:Nat)(v:AV)(v2:AV):=qBin env.P .lss n (Operand.tmp n2) (Operand.tmp n3) (some v) (some v2)
@[simp] noncomputable def Zr(n:Nat)(n2:Nat)(i:Int)(v:AV):=qBin env.P .gtr n (Operand.tmp n2) (Operand.const (Value.int IntKind.i64 i)) (some v) (some (AV.v (Value.int IntKind.i64 i)))
@[simp] noncomputable def Zs(h:Heap)(n:Nat)(v:AV)(v2:AV):=au env.P (Heap.get h) n (some v) (some v2)
@[simp] noncomputable def Zt(h:Heap)(n:Nat)(n2:Nat)(n3:Nat)(v:AV)(v2:AV):=cz env.P true h (Ref.mk 0 n (Heap.gen h 0 n) 0) (some n2) (some n3) v v2
@[simp] noncomputable def Zu(n:Nat)(n2:Nat)(n3:Nat)(v:AV)(v2:AV):=qBin env.P .add n (Operand.tmp n2) (Operand.tmp n3) (some v) (some v2)
@[simp] noncomputable def Zv(h:Heap)(n:Nat)(v:AV)(i:Int):=au env.P (Heap.get h) n (some v) (some (AV.v (Value.int IntKind.i64 i)))
@[simp] noncomputable def Zw(n:Nat)(n2:Nat)(i:Int)(v:AV):=qBin env.P .sub n (Operand.tmp n2) (Operand.const (Value.int IntKind.i64 i)) (some v) (some (AV.v (Value.int IntKind.i64 i)))
@[simp] noncomputable def Zx(n:Nat)(n2:Nat)(n3:Nat)(v:AV)(v2:AV):=qBin env.P .neq n (Operand.tmp n2) (Operand.tmp n3) (some v) (some v2)
@[simp] noncomputable def Zy(v:AV)(n:Nat):=ar (some v) n
@[simp] noncomputable def Zz(h:Heap)(n:Nat)(n2:Nat)(n3:Nat)(n4:Nat)(v:AV):=gY env.P false true h (Ref.mk 0 n (Heap.gen h 0 n) 0) n2 n3 (some [(n4,v)])
@[simp] noncomputable def ZA(v:AV):=qUn env.P .not (some v)
@[simp] noncomputable def ZB(h:Heap)(n:Nat)(v:AV)(v2:AV):=cr env true (limf env) (limt env 0) h (Ref.mk 0 n (Heap.gen h 0 n) 0) (some v) [v2]
@[simp] noncomputable def ZC(n:Nat):=bN env.P n (some [])
@[simp] noncomputable def ZD(v:AV):=qVal (some v)
@[simp] noncomputable def ZE(h:Heap)(n:Nat)(v:AV)(v2:AV):=cw env.P (Heap.get h) n (some v) (some none) (oi v2) (some none)
@[simp] noncomputable def ZF(h:Heap)(n:Nat)(v:AV)(v2:AV):=cw env.P (Heap.get h) n (some v) (oi v2) (some none) (some none)
@[simp] noncomputable def ZG(n:Nat)(n2:Nat)(n3:Nat)(v:AV)(v2:AV):=qBin env.P .sub n (Operand.tmp n2) (Operand.tmp n3) (some v) (some v2)
@[simp] noncomputable def ZH(n:Nat)(n2:Nat)(i:Int)(v:AV):=qBin env.P .leq n (Operand.tmp n2) (Operand.const (Value.int IntKind.i64 i)) (some v) (some (AV.v (Value.int IntKind.i64 i)))
@[simp] noncomputable def ZI(n:Nat)(i:Int)(n2:Nat)(v:AV):=qBin env.P .mul n (Operand.const (Value.int IntKind.i64 i)) (Operand.tmp n2) (some (AV.v (Value.int IntKind.i64 i))) (some v)
@[simp] noncomputable def ZJ(h:Heap)(v:AV)(n:Nat):=aF env.P h v n
@[simp] noncomputable def ZK(h:Heap)(n:Nat)(n2:Nat)(v:AV):=az env.P false (Heap.get h) (Ref.mk 0 n (Heap.gen h 0 n) 0) .cap #[n2] [v]
@[simp] noncomputable def ZL(n:Nat)(n2:Nat)(v:AV):=qBin env.P .shl n (Operand.tmp n2) (.const (.int .u64 8)) (some v) (some (.v (.int .u64 8)))
@[simp] noncomputable def ZM(n:Nat)(n2:Nat)(v:AV):=qBin env.P .gtr n (Operand.tmp n2) (.const (.int .u8 1)) (some v) (some (a8 1))
@[simp] noncomputable def ZN(n:Nat)(n2:Nat)(n3:Nat)(v:AV)(v2:AV):=qBin env.P .or n (Operand.tmp n2) (Operand.tmp n3) (some v) (some v2)
@[simp] noncomputable def ZO(h:Heap)(n:Nat)(n2:Nat)(i:Int):=nRes h (Ref.mk 0 n (Heap.gen h 0 n) 0) (sQ env.P (Ref.mk 0 n (Heap.gen h 0 n) 0) n2 (some (AV.v (Value.int IntKind.i64 i))) (some (AV.v (Value.int IntKind.i64 i))))
@[simp] noncomputable def ZP(n:Nat)(i:Int)(n2:Nat)(v:AV):=qBin env.P .add n (Operand.const (Value.int IntKind.i64 i)) (Operand.tmp n2) (some (AV.v (Value.int IntKind.i64 i))) (some v)
@[simp] noncomputable def ZQ(n:Nat)(n2:Nat)(i:Int)(v:AV):=qBin env.P .rem n (Operand.tmp n2) (Operand.const (Value.int IntKind.i64 i)) (some v) (some (AV.v (Value.int IntKind.i64 i)))
@[simp] noncomputable def ZR(n:Nat)(n2:Nat)(v:AV):=qBin env.P .eql n (Operand.tmp n2) (.const (.int .u8 1)) (some v) (some (a8 1))
@[simp] noncomputable def ZS(h:Heap)(n:Nat)(v:AV)(v2:AV)(v3:AV):=cr env true (limf env) (limt env 0) h (Ref.mk 0 n (Heap.gen h 0 n) 0) (some v) [v2,v3]
@[simp] noncomputable def ZT(h:Heap)(n:Nat)(n2:Nat)(n3:Nat)(v:AV):=az env.P false (Heap.get h) (Ref.mk (n+1) n2 (Heap.gen h (n+1) n2) 0) .len #[n3] [v]
@[simp] noncomputable def ZU(n:Nat)(n2:Nat)(i:Int)(v:AV):=qBin env.P .mul n (Operand.tmp n2) (Operand.const (Value.int IntKind.i64 i)) (some v) (some (AV.v (Value.int IntKind.i64 i)))
@[simp] noncomputable def ZV(n:Nat)(i:Int)(n2:Nat)(v:AV):=qBin env.P .sub n (Operand.const (Value.int IntKind.i64 i)) (Operand.tmp n2) (some (AV.v (Value.int IntKind.i64 i))) (some v)
@[simp] noncomputable def ZW(n:Nat)(n2:Nat)(v:AV):=qBin env.P .eql n (Operand.tmp n2) (.const (.int .u8 0)) (some v) (some (a8 0))
@[simp] noncomputable def ZX(n:Nat)(n2:Nat)(v:AV):=qBin env.P .eql n (Operand.tmp n2) (.const (.int .u8 3)) (some v) (some (a8 3))
@[simp] noncomputable def ZY(n:Nat)(n2:Nat)(n3:Nat)(v:AV)(v2:AV):=qBin env.P .gtr n (Operand.tmp n2) (Operand.tmp n3) (some v) (some v2)
@[simp] noncomputable def ZZ(n:Nat)(n2:Nat)(v:AV):=qBin env.P .shr n (Operand.tmp n2) (.const (.int .u64 8)) (some v) (some (.v (.int .u64 8)))
@[simp] noncomputable def Z0(n:Nat)(n2:Nat)(v:AV):=bN env.P n (some [(n2,v)])
@[simp] noncomputable def Z1(n:Nat)(n2:Nat)(n3:Nat)(v:AV)(v2:AV):=qBin env.P .shr n (Operand.tmp n2) (Operand.tmp n3) (some v) (some v2)
@[simp] noncomputable def Z2(h:Heap)(n:Nat)(v:AV):=ax env.P h n (some v) (some (.v (.slice none 0 0)))
@[simp] noncomputable def Z3(n:Nat):=qA env.P n (some (.v (.string ⟨#[99,97,110,110,111,116,32,98,101,32,110,101,103,97,116,105,118,101]⟩)))
@[simp] noncomputable def Z4(h:Heap)(n:Nat)(n2:Nat)(n3:Nat):=nRes h (Ref.mk (n+1) n2 (Heap.gen h (n+1) n2) 0) (bW env.P (Ref.mk (n+1) n2 (Heap.gen h (n+1) n2) 0) n3)
@[simp] noncomputable def Z5(n:Nat):=qA env.P n (some (.v (.string ⟨#[108,101,110,32,111,117,116,32,111,102,32,114,97,110,103,101]⟩)))
@[simp] noncomputable def Z6(h:Heap)(n:Nat)(n2:Nat)(n3:Nat)(n4:Nat)(v:AV)(n5:Nat)(v2:AV):=gY env.P true false h (Ref.mk 0 n (Heap.gen h 0 n) 0) n2 n3 (some [(n4,v),(n5,v2)])
@[simp] noncomputable def Z7(h:Heap)(n:Nat)(v:AV):=cr env true (limf env) (limt env 0) h (Ref.mk 0 n (Heap.gen h 0 n) 0) (some v) [(.v (.int .i64 1))]
@[simp] noncomputable def Z8(v:AV):=qNil (some v)
@[simp] noncomputable def Z9(n:Nat)(n2:Nat)(v:AV):=qBin env.P .eql n (Operand.tmp n2) (.const (.slice none 0 0)) (some v) (some (.v (.slice none 0 0)))
@[simp] noncomputable def Yp(n:Nat)(n2:Nat)(v:AV):=qBin env.P .lss n (Operand.tmp n2) (.const (.int .i64 (-1))) (some v) (some (.v (.int .i64 (-1))))
@[simp] noncomputable def Yq(n:Nat)(n2:Nat)(v:AV):=qBin env.P .shr n (Operand.tmp n2) (.const (.int .u64 16)) (some v) (some (.v (.int .u64 16)))
@[simp] noncomputable def Yr(n:Nat)(n2:Nat)(v:AV):=qBin env.P .shl n (Operand.tmp n2) (.const (.int .u64 16)) (some v) (some (.v (.int .u64 16)))
@[simp] noncomputable def Ys(h:Heap)(n:Nat)(v:AV):=cw env.P (Heap.get h) n (some v) (oi (.v (.int .i64 1))) (oi (.v (.int .i64 5))) (some none)
@[simp] noncomputable def Yt(n:Nat)(n2:Nat)(v:AV)(n3:Nat)(v2:AV):=bN env.P n (some [(n2,v),(n3,v2)])
theorem Km:MT env fns=true:=by kernel_rfl
@[simp] theorem X8{f:FuncId}(h:thr.contains f=false):(env.mode f == 2)=false:=by
 show((if keep.contains f then 1 else if thr.contains f then 2 else 0) == 2)=false
 rw[h]
 split<;>rfl
theorem Xk{f:FuncId}(h:keep.contains f=false):(env.mode f == 1)=false:=by
 show((if keep.contains f then 1 else if thr.contains f then 2 else 0) == 1)=false
 rw[h]
 cases thr.contains f<;>rfl
@[simp] theorem Xs{f:FuncId}(h:keep.contains f=false)(x:AV)(H:Heap)(y:AV):gX env f x H y↔view H.get depth x=some y:=J6 (Xk h) x H y
theorem Xj{f:FuncId}(h:keep.contains f=true):(env.mode f == 1)=true:=by
 show((if keep.contains f then 1 else if thr.contains f then 2 else 0) == 1)=true
 rw[h];rfl
@[simp] theorem Xr{f:FuncId}(h:keep.contains f=true)(x:AV)(H:Heap)(y:AV):gX env f x H y↔(aJ H.get depth x).Nodup∧dL H.get depth x=some y:=ER (Xj h) x H y
@[simp] theorem OF:bp env.P 3=(some 1):=by kernel_rfl
@[simp] theorem SE:tagg env.P 3=(some false):=by kernel_rfl
@[simp] theorem OC:fx env.P 3=(some (.v (.int .i64 0))):=by kernel_rfl
@[simp] theorem PX:mE env.P 3=(some 1):=by kernel_rfl
@[simp] theorem P3:isInt env.P 3=true:=by kernel_rfl
@[simp] theorem JW:intKind env.P 3=(some .i64):=by kernel_rfl
@[simp] theorem Sd:(env.P.underlying 3).isNone=false:=by kernel_rfl
@[simp] theorem OE:bp env.P 4=(some 1):=by kernel_rfl
@[simp] theorem SD:tagg env.P 4=(some false):=by kernel_rfl
@[simp] theorem PW:mE env.P 4=(some 0):=by kernel_rfl
@[simp] theorem MG:isBool env.P 4=true:=by kernel_rfl
@[simp] theorem OD:bp env.P 5=(some 1):=by kernel_rfl
@[simp] theorem SC:tagg env.P 5=(some false):=by kernel_rfl
@[simp] theorem PV:mE env.P 5=(some 1):=by kernel_rfl
@[simp] theorem JV:intKind env.P 5=(some .u8):=by kernel_rfl
@[simp] theorem Sc:(env.P.underlying 5).isNone=false:=by kernel_rfl
@[simp] theorem Xn:isStr env.P 9=true:=by kernel_rfl
@[simp] theorem Lj:bp env.P 21=(some 1):=by kernel_rfl
@[simp] theorem OO:tagg env.P 21=(some false):=by kernel_rfl
@[simp] theorem RJ:intKind env.P 21=(some .i32):=by kernel_rfl
@[simp] theorem Wi:(env.P.underlying 21).isNone=false:=by kernel_rfl
@[simp] theorem Li:bp env.P 22=(some 1):=by kernel_rfl
@[simp] theorem ON:tagg env.P 22=(some false):=by kernel_rfl
@[simp] theorem Ln:ek env.P 22=(some 78):=by kernel_rfl
@[simp] theorem OI:tarr env.P 22=none:=by kernel_rfl
@[simp] theorem MD:isStr env.P 22=false:=by kernel_rfl
@[simp] theorem Uq:apT env.P 22=true:=by kernel_rfl
@[simp] theorem Q0:elOk env.P 22=true:=by kernel_rfl
@[simp] theorem Ub:elZ env.P 22=2:=by kernel_rfl
@[simp] theorem Q2:elBy env.P 22=32:=by kernel_rfl
@[simp] theorem Kv:gh env.P 22=(.agg [(.v (.int .i64 0)),(.v (.slice none 0 0))]):=by kernel_rfl
@[simp] theorem U4:bp env.P 24=(some 4):=by kernel_rfl
@[simp] theorem WR:tagg env.P 24=(some true):=by kernel_rfl
@[simp] theorem Wz:tarr env.P 24=none:=by kernel_rfl
@[simp] theorem UN:fx env.P 24=(some (.agg [(.v (.slice none 0 0)),(.v (.int .i64 0)),(.v (.int .i64 0)),(.v (.bool false))])):=by kernel_rfl
@[simp] theorem Tv:fg env.P 24=(some [(0,1),(1,1),(2,1),(3,1)]):=by kernel_rfl
@[simp] theorem QS:aH env.P 24 0=(some (0,1)):=by kernel_rfl
@[simp] theorem QF:aH env.P 24 1=(some (1,1)):=by kernel_rfl
@[simp] theorem Qt:aH env.P 24 2=(some (2,1)):=by kernel_rfl
@[simp] theorem Qo:aH env.P 24 3=(some (3,1)):=by kernel_rfl
@[simp] theorem U3:bp env.P 25=(some 1):=by kernel_rfl
@[simp] theorem WQ:tagg env.P 25=(some false):=by kernel_rfl
@[simp] theorem U5:ek env.P 25=(some 51):=by kernel_rfl
@[simp] theorem Wy:tarr env.P 25=none:=by kernel_rfl
@[simp] theorem VM:isStr env.P 25=false:=by kernel_rfl
@[simp] theorem Yk:apT env.P 25=true:=by kernel_rfl
@[simp] theorem XL:elOk env.P 25=true:=by kernel_rfl
@[simp] theorem Yd:elZ env.P 25=24:=by kernel_rfl
@[simp] theorem XN:elBy env.P 25=160:=by kernel_rfl
@[simp] theorem T9:gh env.P 25=(.agg [(a8 0),(.v (.int .i64 0)),(a8 0),(a8 0),(a32 0),(a8 0),(.v (.int .i64 0)),(a8 0),(a32 0),(a8 0),(.v (.int .i64 0)),(.v (.int .i64 0)),(a8 0),(a32 0),(a8 0),(.v (.int .i64 0)),(a8 0),(a32 0),(.v (.slice none 0 0)),(.v (.int .i64 0)),(.v (.int .i64 0)),(a8 0),(a32 0),(.v (.bool false))]):=by kernel_rfl
@[simp] theorem U2:bp env.P 27=(some 2):=by kernel_rfl
@[simp] theorem WO:tagg env.P 27=(some true):=by kernel_rfl
@[simp] theorem Wx:tarr env.P 27=none:=by kernel_rfl
@[simp] theorem UM:fx env.P 27=(some (.agg [(.v (.int .i64 0)),(.v (.int .i64 0))])):=by kernel_rfl
@[simp] theorem VJ:mE env.P 27=none:=by kernel_rfl
@[simp] theorem XH:eqTy env.P 27=true:=by kernel_rfl
@[simp] theorem QU:gx env.P 27=(some [3,3]):=by kernel_rfl
@[simp] theorem Tu:fg env.P 27=(some [(0,1),(1,1)]):=by kernel_rfl
@[simp] theorem QR:aH env.P 27 0=(some (0,1)):=by kernel_rfl
@[simp] theorem QE:aH env.P 27 1=(some (1,1)):=by kernel_rfl
@[simp] theorem U1:bp env.P 29=(some 8):=by kernel_rfl
@[simp] theorem WN:tagg env.P 29=(some true):=by kernel_rfl
@[simp] theorem Ww:tarr env.P 29=none:=by kernel_rfl
@[simp] theorem UL:fx env.P 29=(some (.agg [(.v (.slice none 0 0)),(.v (.int .i64 0)),(.v (.int .i64 0)),(.v (.bool false)),(.v (.slice none 0 0)),(.v (.int .i64 0)),(.v (.int .i64 0)),(.v (.int .i64 0))])):=by kernel_rfl
@[simp] theorem Tt:fg env.P 29=(some [(0,4),(4,1),(5,2),(7,1)]):=by kernel_rfl
@[simp] theorem QQ:aH env.P 29 0=(some (0,4)):=by kernel_rfl
@[simp] theorem QD:aH env.P 29 1=(some (4,1)):=by kernel_rfl
@[simp] theorem Qs:aH env.P 29 2=(some (5,2)):=by kernel_rfl
@[simp] theorem Qn:aH env.P 29 3=(some (7,1)):=by kernel_rfl
@[simp] theorem U0:bp env.P 30=(some 1):=by kernel_rfl
@[simp] theorem WM:tagg env.P 30=(some false):=by kernel_rfl
@[simp] theorem RI:intKind env.P 30=(some .i64):=by kernel_rfl
@[simp] theorem Wh:(env.P.underlying 30).isNone=false:=by kernel_rfl
@[simp] theorem UZ:bp env.P 34=(some 1):=by kernel_rfl
@[simp] theorem WL:tagg env.P 34=(some false):=by kernel_rfl
@[simp] theorem VI:mE env.P 34=(some 1):=by kernel_rfl
@[simp] theorem RH:intKind env.P 34=(some .u32):=by kernel_rfl
@[simp] theorem Wg:(env.P.underlying 34).isNone=false:=by kernel_rfl
@[simp] theorem UY:bp env.P 36=(some 2):=by kernel_rfl
@[simp] theorem WK:tagg env.P 36=(some true):=by kernel_rfl
@[simp] theorem Wv:tarr env.P 36=none:=by kernel_rfl
@[simp] theorem UK:fx env.P 36=(some (.agg [(a8 0),(a32 0)])):=by kernel_rfl
@[simp] theorem VH:mE env.P 36=none:=by kernel_rfl
@[simp] theorem XG:eqTy env.P 36=true:=by kernel_rfl
@[simp] theorem E8:gx env.P 36=(some [5,34]):=by kernel_rfl
@[simp] theorem Ts:fg env.P 36=(some [(0,1),(1,1)]):=by kernel_rfl
@[simp] theorem QP:aH env.P 36 0=(some (0,1)):=by kernel_rfl
@[simp] theorem QC:aH env.P 36 1=(some (1,1)):=by kernel_rfl
@[simp] theorem UX:bp env.P 38=(some 3):=by kernel_rfl
@[simp] theorem WJ:tagg env.P 38=(some true):=by kernel_rfl
@[simp] theorem Wu:tarr env.P 38=none:=by kernel_rfl
@[simp] theorem UJ:fx env.P 38=(some (.agg [(a8 0),(a32 0),(a8 0)])):=by kernel_rfl
@[simp] theorem VG:mE env.P 38=none:=by kernel_rfl
@[simp] theorem XF:eqTy env.P 38=true:=by kernel_rfl
@[simp] theorem E7:gx env.P 38=(some [36,5]):=by kernel_rfl
@[simp] theorem Tr:fg env.P 38=(some [(0,2),(2,1)]):=by kernel_rfl
@[simp] theorem QO:aH env.P 38 0=(some (0,2)):=by kernel_rfl
@[simp] theorem QB:aH env.P 38 1=(some (2,1)):=by kernel_rfl
@[simp] theorem UW:bp env.P 40=(some 4):=by kernel_rfl
@[simp] theorem WI:tagg env.P 40=(some true):=by kernel_rfl
@[simp] theorem Wt:tarr env.P 40=none:=by kernel_rfl
@[simp] theorem UI:fx env.P 40=(some (.agg [(a8 0),(a32 0),(a8 0),(.v (.int .i64 0))])):=by kernel_rfl
@[simp] theorem VF:mE env.P 40=none:=by kernel_rfl
@[simp] theorem XE:eqTy env.P 40=true:=by kernel_rfl
@[simp] theorem E6:gx env.P 40=(some [38,3]):=by kernel_rfl
@[simp] theorem Tq:fg env.P 40=(some [(0,3),(3,1)]):=by kernel_rfl
@[simp] theorem QN:aH env.P 40 0=(some (0,3)):=by kernel_rfl
@[simp] theorem QA:aH env.P 40 1=(some (3,1)):=by kernel_rfl
@[simp] theorem UU:bp env.P 42=(some 5):=by kernel_rfl
@[simp] theorem WH:tagg env.P 42=(some true):=by kernel_rfl
@[simp] theorem VE:mE env.P 42=none:=by kernel_rfl
@[simp] theorem XD:eqTy env.P 42=true:=by kernel_rfl
@[simp] theorem E5:gx env.P 42=(some [40,3]):=by kernel_rfl
@[simp] theorem QM:aH env.P 42 0=(some (0,4)):=by kernel_rfl
@[simp] theorem Qz:aH env.P 42 1=(some (4,1)):=by kernel_rfl
@[simp] theorem UT:bp env.P 43=(some 1):=by kernel_rfl
@[simp] theorem WG:tagg env.P 43=(some false):=by kernel_rfl
@[simp] theorem Lm:ek env.P 43=(some 21):=by kernel_rfl
@[simp] theorem Ws:tarr env.P 43=none:=by kernel_rfl
@[simp] theorem VL:isStr env.P 43=false:=by kernel_rfl
@[simp] theorem UH:fx env.P 43=(some (.v (.slice none 0 0))):=by kernel_rfl
@[simp] theorem Yj:apT env.P 43=true:=by kernel_rfl
@[simp] theorem XK:elOk env.P 43=true:=by kernel_rfl
@[simp] theorem Yc:elZ env.P 43=1:=by kernel_rfl
@[simp] theorem XM:elBy env.P 43=4:=by kernel_rfl
@[simp] theorem T8:gh env.P 43=(.v (.int .i32 0)):=by kernel_rfl
@[simp] theorem US:bp env.P 45=(some 17):=by kernel_rfl
@[simp] theorem WE:tagg env.P 45=(some true):=by kernel_rfl
@[simp] theorem Wr:tarr env.P 45=none:=by kernel_rfl
@[simp] theorem UG:fx env.P 45=(some (.agg [(a8 0),(a8 0),(a32 0),(a8 0),(.v (.int .i64 0)),(a8 0),(a32 0),(a8 0),(.v (.int .i64 0)),(.v (.int .i64 0)),(a8 0),(a32 0),(a8 0),(.v (.int .i64 0)),(a8 0),(a32 0),(.v (.slice none 0 0))])):=by kernel_rfl
@[simp] theorem E4:gx env.P 45=(some [5,38,3,42,40,36,43]):=by kernel_rfl
@[simp] theorem Tp:fg env.P 45=(some [(0,1),(1,3),(4,1),(5,5),(10,4),(14,2),(16,1)]):=by kernel_rfl
@[simp] theorem QL:aH env.P 45 0=(some (0,1)):=by kernel_rfl
@[simp] theorem Qy:aH env.P 45 1=(some (1,3)):=by kernel_rfl
@[simp] theorem Qr:aH env.P 45 2=(some (4,1)):=by kernel_rfl
@[simp] theorem Qm:aH env.P 45 3=(some (5,5)):=by kernel_rfl
@[simp] theorem Qk:aH env.P 45 4=(some (10,4)):=by kernel_rfl
@[simp] theorem Qi:aH env.P 45 5=(some (14,2)):=by kernel_rfl
@[simp] theorem Qh:aH env.P 45 6=(some (16,1)):=by kernel_rfl
@[simp] theorem UR:bp env.P 47=(some 3):=by kernel_rfl
@[simp] theorem Wq:tarr env.P 47=none:=by kernel_rfl
@[simp] theorem UF:fx env.P 47=(some (.agg [(a8 0),(a32 0),(.v (.bool false))])):=by kernel_rfl
@[simp] theorem VD:mE env.P 47=none:=by kernel_rfl
@[simp] theorem E3:gx env.P 47=(some [36,4]):=by kernel_rfl
@[simp] theorem To:fg env.P 47=(some [(0,2),(2,1)]):=by kernel_rfl
@[simp] theorem QK:aH env.P 47 0=(some (0,2)):=by kernel_rfl
@[simp] theorem Qx:aH env.P 47 1=(some (2,1)):=by kernel_rfl
@[simp] theorem UQ:bp env.P 49=(some 4):=by kernel_rfl
@[simp] theorem WD:tagg env.P 49=(some true):=by kernel_rfl
@[simp] theorem Wp:tarr env.P 49=none:=by kernel_rfl
@[simp] theorem UE:fx env.P 49=(some (.agg [(.v (.int .i64 0)),(a8 0),(a32 0),(.v (.bool false))])):=by kernel_rfl
@[simp] theorem VC:mE env.P 49=none:=by kernel_rfl
@[simp] theorem XC:eqTy env.P 49=true:=by kernel_rfl
@[simp] theorem E2:gx env.P 49=(some [3,47]):=by kernel_rfl
@[simp] theorem Tn:fg env.P 49=(some [(0,1),(1,3)]):=by kernel_rfl
@[simp] theorem QJ:aH env.P 49 0=(some (0,1)):=by kernel_rfl
@[simp] theorem Qw:aH env.P 49 1=(some (1,3)):=by kernel_rfl
@[simp] theorem UP:bp env.P 51=(some 24):=by kernel_rfl
@[simp] theorem WC:tagg env.P 51=(some true):=by kernel_rfl
@[simp] theorem Wo:tarr env.P 51=none:=by kernel_rfl
@[simp] theorem UD:fx env.P 51=(some (.agg [(a8 0),(.v (.int .i64 0)),(a8 0),(a8 0),(a32 0),(a8 0),(.v (.int .i64 0)),(a8 0),(a32 0),(a8 0),(.v (.int .i64 0)),(.v (.int .i64 0)),(a8 0),(a32 0),(a8 0),(.v (.int .i64 0)),(a8 0),(a32 0),(.v (.slice none 0 0)),(.v (.int .i64 0)),(.v (.int .i64 0)),(a8 0),(a32 0),(.v (.bool false))])):=by kernel_rfl
@[simp] theorem E1:gx env.P 51=(some [5,3,45,30,49]):=by kernel_rfl
@[simp] theorem Tm:fg env.P 51=(some [(0,1),(1,1),(2,17),(19,1),(20,4)]):=by kernel_rfl
@[simp] theorem QI:aH env.P 51 0=(some (0,1)):=by kernel_rfl
@[simp] theorem Qv:aH env.P 51 1=(some (1,1)):=by kernel_rfl
@[simp] theorem Qq:aH env.P 51 2=(some (2,17)):=by kernel_rfl
@[simp] theorem Ql:aH env.P 51 3=(some (19,1)):=by kernel_rfl
@[simp] theorem Qj:aH env.P 51 4=(some (20,4)):=by kernel_rfl
@[simp] theorem WB:tagg env.P 59=(some false):=by kernel_rfl
@[simp] theorem Ll:ek env.P 59=(some 63):=by kernel_rfl
@[simp] theorem Wn:tarr env.P 59=none:=by kernel_rfl
@[simp] theorem VK:isStr env.P 59=false:=by kernel_rfl
@[simp] theorem Lh:bp env.P 63=(some 26):=by kernel_rfl
@[simp] theorem OM:tagg env.P 63=(some true):=by kernel_rfl
@[simp] theorem E0:gx env.P 63=(some [5,51,3]):=by kernel_rfl
@[simp] theorem QH:aH env.P 63 0=(some (0,1)):=by kernel_rfl
@[simp] theorem Qu:aH env.P 63 1=(some (1,24)):=by kernel_rfl
@[simp] theorem Qp:aH env.P 63 2=(some (25,1)):=by kernel_rfl
@[simp] theorem Lg:bp env.P 76=(some 1):=by kernel_rfl
@[simp] theorem OL:tagg env.P 76=(some false):=by kernel_rfl
@[simp] theorem Lk:ek env.P 76=(some 5):=by kernel_rfl
@[simp] theorem OH:tarr env.P 76=none:=by kernel_rfl
@[simp] theorem MC:isStr env.P 76=false:=by kernel_rfl
@[simp] theorem Up:apT env.P 76=true:=by kernel_rfl
@[simp] theorem QZ:elOk env.P 76=true:=by kernel_rfl
@[simp] theorem Ua:elZ env.P 76=1:=by kernel_rfl
@[simp] theorem Q1:elBy env.P 76=1:=by kernel_rfl
@[simp] theorem Ku:gh env.P 76=(a8 0):=by kernel_rfl
@[simp] theorem MF:dh env.P 76=true:=by kernel_rfl
@[simp] theorem Lf:bp env.P 78=(some 2):=by kernel_rfl
@[simp] theorem OK:tagg env.P 78=(some true):=by kernel_rfl
@[simp] theorem OG:tarr env.P 78=none:=by kernel_rfl
@[simp] theorem Le:fx env.P 78=(some (.agg [(.v (.int .i64 0)),(.v (.slice none 0 0))])):=by kernel_rfl
@[simp] theorem Io:kj env.P 78=(some 32):=by kernel_rfl
@[simp] theorem Ju:fg env.P 78=(some [(0,1),(1,1)]):=by kernel_rfl
@[simp] theorem EY:aH env.P 78 0=(some (0,1)):=by kernel_rfl
@[simp] theorem EX:aH env.P 78 1=(some (1,1)):=by kernel_rfl
@[simp] theorem UO:bp env.P 92=(some 8):=by kernel_rfl
@[simp] theorem WA:tagg env.P 92=(some true):=by kernel_rfl
@[simp] theorem Wm:tarr env.P 92=none:=by kernel_rfl
@[simp] theorem UC:fx env.P 92=(some (.agg [(.v (.slice none 0 0)),(.v (.int .i64 0)),(.v (.int .i64 0)),(.v (.bool false)),(.v (.slice none 0 0)),(.v (.int .i64 0)),(.v (.int .i64 0)),(.v (.int .i64 0))])):=by kernel_rfl
@[simp] theorem Tl:fg env.P 92=(some [(0,8)]):=by kernel_rfl
@[simp] theorem QG:aH env.P 92 0=(some (0,8)):=by kernel_rfl
@[simp] theorem Sx:bp env.P 107=(some 24):=by kernel_rfl
@[simp] theorem Vd:tarr env.P 107=none:=by kernel_rfl
@[simp] theorem Sk:fx env.P 107=(some (.agg [(a8 0),(.v (.int .i64 0)),(a8 0),(a8 0),(a32 0),(a8 0),(.v (.int .i64 0)),(a8 0),(a32 0),(a8 0),(.v (.int .i64 0)),(.v (.int .i64 0)),(a8 0),(a32 0),(a8 0),(.v (.int .i64 0)),(a8 0),(a32 0),(.v (.slice none 0 0)),(.v (.int .i64 0)),(.v (.int .i64 0)),(a8 0),(a32 0),(.v (.bool false))])):=by kernel_rfl
@[simp] theorem RB:fg env.P 107=(some [(0,24)]):=by kernel_rfl
@[simp] theorem Oc:aH env.P 107 0=(some (0,24)):=by kernel_rfl
@[simp] theorem Sw:bp env.P 122=(some 1):=by kernel_rfl
@[simp] theorem Vi:tagg env.P 122=(some false):=by kernel_rfl
@[simp] theorem SB:ek env.P 122=(some 76):=by kernel_rfl
@[simp] theorem Vc:tarr env.P 122=none:=by kernel_rfl
@[simp] theorem TJ:isStr env.P 122=false:=by kernel_rfl
@[simp] theorem Sj:fx env.P 122=(some (.v (.slice none 0 0))):=by kernel_rfl
@[simp] theorem XX:apT env.P 122=true:=by kernel_rfl
@[simp] theorem VW:elOk env.P 122=true:=by kernel_rfl
@[simp] theorem XJ:elZ env.P 122=1:=by kernel_rfl
@[simp] theorem VX:elBy env.P 122=24:=by kernel_rfl
@[simp] theorem RV:gh env.P 122=(.v (.slice none 0 0)):=by kernel_rfl
@[simp] theorem Sv:bp env.P 132=(some 4):=by kernel_rfl
@[simp] theorem Vh:tagg env.P 132=(some true):=by kernel_rfl
@[simp] theorem Vb:tarr env.P 132=none:=by kernel_rfl
@[simp] theorem Si:fx env.P 132=(some (.agg [(.v (.int .i64 0)),(.v (.int .i64 0)),(.v (.int .i64 0)),(.v (.int .i64 0))])):=by kernel_rfl
@[simp] theorem RA:fg env.P 132=(some [(0,1),(1,1),(2,1),(3,1)]):=by kernel_rfl
@[simp] theorem Ob:aH env.P 132 0=(some (0,1)):=by kernel_rfl
@[simp] theorem N8:aH env.P 132 1=(some (1,1)):=by kernel_rfl
@[simp] theorem N5:aH env.P 132 2=(some (2,1)):=by kernel_rfl
@[simp] theorem N3:aH env.P 132 3=(some (3,1)):=by kernel_rfl
@[simp] theorem SA:ek env.P 139=(some 25):=by kernel_rfl
@[simp] theorem Va:tarr env.P 139=none:=by kernel_rfl
@[simp] theorem TI:isStr env.P 139=false:=by kernel_rfl
@[simp] theorem VV:elOk env.P 139=true:=by kernel_rfl
@[simp] theorem XI:elZ env.P 139=1:=by kernel_rfl
@[simp] theorem RU:gh env.P 139=(.v (.slice none 0 0)):=by kernel_rfl
@[simp] theorem Su:bp env.P 144=(some 1):=by kernel_rfl
@[simp] theorem Vg:tagg env.P 144=(some false):=by kernel_rfl
@[simp] theorem P4:intKind env.P 145=(some .u64):=by kernel_rfl
@[simp] theorem Uy:(env.P.underlying 145).isNone=false:=by kernel_rfl
@[simp] theorem Ss:bp env.P 178=(some 4):=by kernel_rfl
@[simp] theorem Sz:ek env.P 178=none:=by kernel_rfl
@[simp] theorem U9:tarr env.P 178=(some (2,27)):=by kernel_rfl
@[simp] theorem Sh:fx env.P 178=(some (.agg [(.v (.int .i64 0)),(.v (.int .i64 0)),(.v (.int .i64 0)),(.v (.int .i64 0))])):=by kernel_rfl
@[simp] theorem Sr:bp env.P 218=(some 2):=by kernel_rfl
@[simp] theorem Vf:tagg env.P 218=(some true):=by kernel_rfl
@[simp] theorem Nz:pQ env.P 218 0=(some (0,144)):=by kernel_rfl
@[simp] theorem U8:tarr env.P 219=(some (4,218)):=by kernel_rfl
@[simp] theorem Sq:bp env.P 248=(some 4):=by kernel_rfl
@[simp] theorem Ve:tagg env.P 248=(some true):=by kernel_rfl
@[simp] theorem U7:tarr env.P 248=none:=by kernel_rfl
@[simp] theorem Sg:fx env.P 248=(some (.agg [(a8 0),(a32 0),(a8 0),(.v (.int .i64 0))])):=by kernel_rfl
@[simp] theorem Rz:fg env.P 248=(some [(0,3),(3,1)]):=by kernel_rfl
@[simp] theorem Ny:pQ env.P 248 0=(some (0,38)):=by kernel_rfl
@[simp] theorem Oa:aH env.P 248 0=(some (0,3)):=by kernel_rfl
@[simp] theorem N7:aH env.P 248 1=(some (3,1)):=by kernel_rfl
@[simp] theorem Sp:bp env.P 252=(some 3):=by kernel_rfl
@[simp] theorem U6:tarr env.P 252=none:=by kernel_rfl
@[simp] theorem Sf:fx env.P 252=(some (.agg [(.v (.slice none 0 0)),(.v (.int .i64 0)),(.v (.bool false))])):=by kernel_rfl
@[simp] theorem Ry:fg env.P 252=(some [(0,1),(1,1),(2,1)]):=by kernel_rfl
@[simp] theorem N9:aH env.P 252 0=(some (0,1)):=by kernel_rfl
@[simp] theorem N6:aH env.P 252 1=(some (1,1)):=by kernel_rfl
@[simp] theorem N4:aH env.P 252 2=(some (2,1)):=by kernel_rfl
end Go.Proofs.YtiidajnodhkidaaGreat
namespace Go.Proofs.YtiidajnodhkidaaGreat
open Go.Ab
theorem M5:env.Ok (Du env):=Kt F2 (by kernel_rfl) Km (fun f t h=>by cases h) (fun f args H y H' h=>by
 by_cases e:f=112
 ·rw[if_pos e]at h
  rw[e]
  exact ins.JZ args H y H' h
 ·rw[if_neg e]at h;cases h)
end Go.Proofs.YtiidajnodhkidaaGreat
