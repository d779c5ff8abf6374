/-
  The facts on the program's types, computed. No statement of a seat is proved here.
-/
import Derived.Test.YtmkmimgokagimaaGreatRows
import Derived.Test.YtmkmimgokagimaaGreatAbsRules
set_option linter.unusedVariables false
set_option maxRecDepth 1000000
namespace Go.Proofs.YtmkmimgokagimaaGreat
open Go.Ab
def fns:List FuncId:=[4,5,7,8,10,11,12,13,14,15,17,19,21,22,23,24,25,26,27,28,29,30,31,32,33,34,35,42,43,44,45,46,47,49,52,55,56,57,58,59,60,61,62,63,64,65,66,68,69,70,71,72,73,74,75,76,77,78,80,81,82,83,84,85,86,87,88,89,90,91,92,93,94,95,96,97,98,99,100,101,102,103,104,105,106,107,108,109,110,111,112,113,114,115,116,117,118,119,120,121,122,123,124,125,126,127,130,131,132,133,134,135,136,137,138,139,140,141,142,143,144,145,146,147,148,149,150,151,152,153,154,155,156,157,158,159,160,161,162,163,164,165,166,167,168,169,170,171,172,173,174,175,176,177,178,179,180,181,182,183,184,185,186,187,188,189,190,191,192,193,194,195,196,197,198,199,200,201,202,203,204,205,206,207,208,209,210,211,212,213,214,215,216,217,218,219,220,221,222,223,224,225,226,227,228,229,230,231,232,233,234,235,236,237,238,239,240,241,242,243,244,245,246,247,248,249,250,251]
def keep:List FuncId:=[84,160,162,173,205,206,209,225]
def thr:List FuncId:=[64,65,69,71,72,75,77,81,83,87,88,90,92,95,97,98,100,145,146,147,148,149,150,151,153,172,193,218,219,220,230,232,233,234,241,242,250]
def memo:List (FuncId × List AV × AV):=[(36,[],.v (.bool true))]
noncomputable def env:Env:=Ax Tryz.prog fns keep thr (Ft [(19,13,18),(16,1,77777),(55,1,88888),(35,147,88889),(55,72,88889),(10,48,88889),(10,50,88889),(7,5,66666),(20,160,88889)]) (uv [(15,12,0,[(20,23)]),(52,10,0,[(56,58)]),(25,34,4,[(44,43)]),(6,21,0,[(16,4),(20,4),(17,4)]),(58,23,0,[(71,61),(4,61),(5,61),(5,68)]),(7,6,0,[(3,5)]),(64,16,17,[(5,66),(66,7)]),(143,16,25,[(5,145),(145,7),(145,9)])]) (Mu [(19,13,18),(16,1,77777),(55,1,88888),(35,147,88889),(55,72,88889),(10,48,88889),(10,50,88889),(7,5,66666),(20,160,88889)]) memo (fun _=>false) (fun _=>none) (fun _ _ _=>none) F4
@[simp] noncomputable def Za(b:Bool)(h:Heap)(n:Nat)(n2:Nat)(a:List AV):=aF env b (limf env) (limt env 0) h (Ref.mk 0 n (Heap.gen h 0 n) 0) (some (AV.fn (Fn.func n2) [] [])) a
@[simp] noncomputable def Zb(h:Heap)(n:Nat)(v:AV):=ai env.P (Heap.get h) n (some v)
@[simp] noncomputable def Zc(h:Heap)(n:Nat)(n2:Nat)(v:AV):=nRes h (Ref.mk 0 n (Heap.gen h 0 n) 0) (qBox env.P (Ref.mk 0 n (Heap.gen h 0 n) 0) n2 (some v))
@[simp] noncomputable def Zd(n:Nat)(v:AV)(n2:Nat):=aa env.P n (some v) n2
@[simp] noncomputable def Ze(n:Nat)(n2:Nat)(i:Int)(v:AV):=qBin env.P .neq n (Operand.tmp n2) (Operand.const (Value.int IntKind.i64 i)) (some v) (some (AV.v (Value.int IntKind.i64 i)))
@[simp] noncomputable def Zf(n:Nat)(n2:Nat)(i:Int)(v:AV):=qBin env.P .add n (Operand.tmp n2) (Operand.const (Value.int IntKind.i64 i)) (some v) (some (AV.v (Value.int IntKind.i64 i)))
@[simp] noncomputable def Zg(v:AV)(v2:AV):=ba (some v) (some v2) (some (AV.v (Value.bool false)))
@[simp] noncomputable def Zh(h:Heap)(n:Nat)(n2:Nat)(v:AV):=ax env.P false (Heap.get h) (Ref.mk 0 n (Heap.gen h 0 n) 0) .len #[n2] [v]
@[simp] noncomputable def Zi(h:Heap)(n:Nat)(n2:Nat)(n3:Nat)(v:AV):=nRes h (Ref.mk (n+1) n2 (Heap.gen h (n+1) n2) 0) (qBox env.P (Ref.mk (n+1) n2 (Heap.gen h (n+1) n2) 0) n3 (some v))
@[simp] noncomputable def Zj(h:Heap)(n:Nat)(n2:Nat):=nRes h (Ref.mk 0 n (Heap.gen h 0 n) 0) (bJ env.P (Ref.mk 0 n (Heap.gen h 0 n) 0) n2)
@[simp] noncomputable def Zk(n:Nat)(n2:Nat)(i:Int)(v:AV):=qBin env.P .eql n (Operand.tmp n2) (Operand.const (Value.int IntKind.i64 i)) (some v) (some (AV.v (Value.int IntKind.i64 i)))
@[simp] noncomputable def Zl(v:AV)(v2:AV):=ba (some v) (some (AV.v (Value.bool true))) (some v2)
@[simp] noncomputable def Zm(h:Heap)(n:Nat)(n2:Nat)(n3:Nat):=nRes h (Ref.mk (n+1) n2 (Heap.gen h (n+1) n2) 0) (bJ env.P (Ref.mk (n+1) n2 (Heap.gen h (n+1) n2) 0) n3)
@[simp] noncomputable def Zn(n:Nat)(n2:Nat)(n3:Nat)(v:AV)(v2:AV):=qBin env.P .eql n (Operand.tmp n2) (Operand.tmp n3) (some v) (some v2)
@[simp] noncomputable def Zo(h:Heap)(n:Nat)(v:AV)(v2:AV):=aE env.P h n (some v) (some v2)
@[simp] noncomputable def Zp(n:Nat)(n2:Nat)(n3:Nat)(v:AV)(v2:AV):=qBin env.P .lss n (Operand.tmp n2) (Operand.tmp n3) (some v) (some v2)
@[simp] noncomputable def Zq(n:Nat)(n2:Nat)(i:Int)(v:AV):=qBin env.P .geq n (Operand.tmp n2) (Operand.const (Value.int IntKind.i64 i)) (some v) (some (AV.v (Value.int IntKind.i64 i)))
@[simp] noncomputable def Zr(n:Nat)(n2:Nat)(i:Int)(v:AV):=qBin env.P .gtr n (Operand.tmp n2) (Operand.const (Value.int IntKind.i64 i)) (some v) (some (AV.v (Value.int IntKind.i64 i)))
@[simp] noncomputable def Zs(n:Nat)(n2:Nat)(i:Int)(v:AV):=qBin env.P .lss n (Operand.tmp n2) (Operand.const (Value.int IntKind.i64 i)) (some v) (some (AV.v (Value.int IntKind.i64 i)))
@[simp] noncomputable def Zt(h:Heap)(n:Nat)(n2:Nat)(n3:Nat)(v:AV)(v2:AV):=dq env.P true h (Ref.mk 0 n (Heap.gen h 0 n) 0) (some n2) (some n3) v v2
@[simp] noncomputable def Zu(h:Heap)(n:Nat)(v:AV)(v2:AV):=aD env.P (Heap.get h) n (some v) (some v2)
@[simp] noncomputable def Zv(n:Nat)(n2:Nat)(n3:Nat)(v:AV)(v2:AV):=qBin env.P .neq n (Operand.tmp n2) (Operand.tmp n3) (some v) (some v2)
@[simp] noncomputable def Zw(h:Heap)(n:Nat)(n2:Nat)(n3:Nat)(v:AV):=cT env.P (Heap.get h) (Ref.mk 0 n (Heap.gen h 0 n) 0) n2 n3 (some v)
@[simp] noncomputable def Zx(v:AV)(n:Nat):=ao (some v) n
@[simp] noncomputable def Zy(n:Nat)(n2:Nat)(i:Int)(v:AV):=qBin env.P .sub n (Operand.tmp n2) (Operand.const (Value.int IntKind.i64 i)) (some v) (some (AV.v (Value.int IntKind.i64 i)))
@[simp] noncomputable def Zz(h:Heap)(n:Nat)(n2:Nat)(n3:Nat)(v:AV):=ax env.P false (Heap.get h) (Ref.mk (n+1) n2 (Heap.gen h (n+1) n2) 0) .len #[n3] [v]
@[simp] noncomputable def ZA(n:Nat)(n2:Nat)(i:Int)(v:AV):=qBin env.P .leq n (Operand.tmp n2) (Operand.const (Value.int IntKind.i64 i)) (some v) (some (AV.v (Value.int IntKind.i64 i)))
@[simp] noncomputable def ZB(n:Nat)(h:Heap)(n2:Nat)(v:AV)(v2:AV):=aF env true (limf env) (limt env (n+1)) h (Ref.mk (n+1) n2 (Heap.gen h (n+1) n2) 0) (some v) [v2]
@[simp] noncomputable def ZC(n:Nat)(h:Heap)(n2:Nat)(v:AV)(v2:AV):=aF env true (limf env) (limt env (n+1)) h (Ref.mk (n+1) n2 (Heap.gen h (n+1) n2) 0) (some (.fn (.func 100) [] [])) [v,v2]
@[simp] noncomputable def ZD(h:Heap)(n:Nat)(n2:Nat)(n3:Nat)(n4:Nat)(v:AV):=iI env.P false true h (Ref.mk 0 n (Heap.gen h 0 n) 0) n2 n3 (some [(n4,v)])
@[simp] noncomputable def ZE(v:AV):=qUn env.P .not (some v)
@[simp] noncomputable def ZF(v:AV):=qVal (some v)
@[simp] noncomputable def ZG(n:Nat)(n2:Nat)(n3:Nat)(v:AV)(v2:AV):=qBin env.P .add n (Operand.tmp n2) (Operand.tmp n3) (some v) (some v2)
@[simp] noncomputable def ZH(h:Heap)(n:Nat)(v:AV)(v2:AV):=aF env true (limf env) (limt env 0) h (Ref.mk 0 n (Heap.gen h 0 n) 0) (some v) [v2]
@[simp] noncomputable def ZI(h:Heap)(n:Nat)(v:AV)(v2:AV):=cS env.P (Heap.get h) n (some v) (some v2) false
@[simp] noncomputable def ZJ(h:Heap)(n:Nat)(v:AV)(v2:AV):=fA env.P (Heap.get h) n (some v) (some none) (oi v2) (some none)
@[simp] noncomputable def ZK(n:Nat)(n2:Nat)(v:AV):=qBin env.P .eql n (Operand.tmp n2) (.const (.int .u8 1)) (some v) (some (a8 1))
@[simp] noncomputable def ZL(n:Nat)(h:Heap)(n2:Nat)(v:AV):=aF env true (limf env) (limt env (n+1)) h (Ref.mk (n+1) n2 (Heap.gen h (n+1) n2) 0) (some (.fn (.func 213) [] [])) [v]
@[simp] noncomputable def ZM(h:Heap)(n:Nat)(n2:Nat):=nRes h (Ref.mk (n+1) n2 (Heap.gen h (n+1) n2) 0) (some (.mp (Ref.mk (n+1) n2 (Heap.gen h (n+1) n2) 0),[bn []]))
@[simp] noncomputable def ZN(v:AV):=qNil (some v)
@[simp] noncomputable def ZO(n:Nat)(n2:Nat)(v:AV):=qBin env.P .eql n (Operand.tmp n2) (.const (.int .u8 3)) (some v) (some (a8 3))
@[simp] noncomputable def ZP(n:Nat)(n2:Nat)(v:AV):=qBin env.P .eql n (Operand.tmp n2) (.const (.slice none 0 0)) (some v) (some (.v (.slice none 0 0)))
@[simp] noncomputable def ZQ(n:Nat)(n2:Nat)(n3:Nat)(v:AV)(v2:AV):=qBin env.P .sub n (Operand.tmp n2) (Operand.tmp n3) (some v) (some v2)
@[simp] noncomputable def ZR(n:Nat)(h:Heap)(n2:Nat)(v:AV)(v2:AV)(v3:AV):=aF env true (limf env) (limt env (n+1)) h (Ref.mk (n+1) n2 (Heap.gen h (n+1) n2) 0) (some v) [v2,v3]
@[simp] noncomputable def ZS(h:Heap)(n:Nat)(n2:Nat)(n3:Nat)(n4:Nat)(v:AV)(v2:AV):=dq env.P true h (Ref.mk (n+1) n2 (Heap.gen h (n+1) n2) 0) (some n3) (some n4) v v2
@[simp] noncomputable def ZT(h:Heap)(n:Nat)(n2:Nat)(v:AV):=ax env.P false (Heap.get h) (Ref.mk 0 n (Heap.gen h 0 n) 0) .cap #[n2] [v]
@[simp] noncomputable def ZU(h:Heap)(n:Nat)(n2:Nat)(n3:Nat)(v:AV)(v2:AV):=ax env.P true (Heap.get h) (Ref.mk 0 n (Heap.gen h 0 n) 0) .max #[n2,n3] [v,v2]
@[simp] noncomputable def ZV(n:Nat)(n2:Nat)(v:AV):=qBin env.P .shr n (Operand.tmp n2) (.const (.int .u64 8)) (some v) (some (.v (.int .u64 8)))
@[simp] noncomputable def ZW(n:Nat)(i:Int)(n2:Nat)(v:AV):=qBin env.P .mul n (Operand.const (Value.int IntKind.i64 i)) (Operand.tmp n2) (some (AV.v (Value.int IntKind.i64 i))) (some v)
@[simp] noncomputable def ZX(n:Nat)(h:Heap)(n2:Nat)(v:AV)(v2:AV):=aF env false (limf env) (limt env (n+1)) h (Ref.mk (n+1) n2 (Heap.gen h (n+1) n2) 0) (some (.fn (.func 152) [] [])) [v,v2]
@[simp] noncomputable def ZY(n:Nat)(h:Heap)(n2:Nat)(v:AV)(v2:AV):=aF env false (limf env) (limt env (n+1)) h (Ref.mk (n+1) n2 (Heap.gen h (n+1) n2) 0) (some (.fn (.func 44) [] [])) [v,v2]
@[simp] noncomputable def ZZ(n:Nat)(h:Heap)(n2:Nat)(v:AV)(v2:AV):=aF env true (limf env) (limt env (n+1)) h (Ref.mk (n+1) n2 (Heap.gen h (n+1) n2) 0) (some (.fn (.func 146) [] [])) [v,v2]
@[simp] noncomputable def Z0(n:Nat)(h:Heap)(n2:Nat)(v:AV)(v2:AV)(v3:AV):=aF env true (limf env) (limt env (n+1)) h (Ref.mk (n+1) n2 (Heap.gen h (n+1) n2) 0) (some (.fn (.func 230) [] [])) [v,v2,v3]
@[simp] noncomputable def Z1(n:Nat)(h:Heap)(n2:Nat)(v:AV)(v2:AV):=aF env true (limf env) (limt env (n+1)) h (Ref.mk (n+1) n2 (Heap.gen h (n+1) n2) 0) (some (.fn (.func 232) [] [])) [v,v2]
@[simp] noncomputable def Z2(n:Nat)(h:Heap)(n2:Nat)(v:AV)(v2:AV):=aF env true (limf env) (limt env (n+1)) h (Ref.mk (n+1) n2 (Heap.gen h (n+1) n2) 0) (some (.fn (.func 47) [] [])) [v,v2]
@[simp] noncomputable def Z3(n:Nat)(h:Heap)(n2:Nat)(v:AV)(v2:AV):=aF env true (limf env) (limt env (n+1)) h (Ref.mk (n+1) n2 (Heap.gen h (n+1) n2) 0) (some (.fn (.func 234) [] [])) [v,v2]
@[simp] noncomputable def Z4(n:Nat)(n2:Nat)(n3:Nat)(v:AV)(v2:AV):=qBin env.P .geq n (Operand.tmp n2) (Operand.tmp n3) (some v) (some v2)
@[simp] noncomputable def Z5(h:Heap)(n:Nat)(n2:Nat)(n3:Nat)(n4:Nat)(n5:Nat)(v:AV):=iI env.P true false h (Ref.mk (n+1) n2 (Heap.gen h (n+1) n2) 0) n3 n4 (some [(n5,v)])
@[simp] noncomputable def Z6(n:Nat):=ff env.P n (some [])
@[simp] noncomputable def Z7(h:Heap)(v:AV)(n:Nat):=bK env.P h v n
@[simp] noncomputable def Z8(h:Heap)(n:Nat)(n2:Nat)(n3:Nat):=iI env.P false true h (Ref.mk 0 n (Heap.gen h 0 n) 0) n2 n3 (some [])
@[simp] noncomputable def Z9(n:Nat)(n2:Nat)(v:AV):=qBin env.P .shr n (Operand.tmp n2) (.const (.int .u64 16)) (some v) (some (.v (.int .u64 16)))
@[simp] noncomputable def Ya(h:Heap)(v:AV)(v2:AV)(v3:AV):=cM h (some v) (some v2) (some v3)
@[simp] noncomputable def Yb(h:Heap)(n:Nat)(v:AV)(v2:AV):=dF env.P h n (some v) (some v2)
@[simp] noncomputable def Yc(n:Nat)(n2:Nat)(v:AV):=ff env.P n (some [(n2,v)])
theorem JI:JH env fns=true:=by kernel_rfl
@[simp] theorem WB{f:FuncId}(h:thr.contains f=false):(env.mode f == 2)=false:=by
 show((if keep.contains f then (if thr.contains f then 3 else 1) else if thr.contains f then 2 else 0) == 2)=false
 rw[h]
 split<;>rfl
@[simp] theorem Vp{f:FuncId}(h:thr.contains f=false):(env.mode f == 3)=false:=by
 show((if keep.contains f then (if thr.contains f then 3 else 1) else if thr.contains f then 2 else 0) == 3)=false
 rw[h]
 split<;>rfl
theorem Vt{f:FuncId}(h:keep.contains f=false):wP (env.mode f)=false:=by
 show wP (if keep.contains f then (if thr.contains f then 3 else 1) else if thr.contains f then 2 else 0)=false
 rw[h]
 cases thr.contains f<;>rfl
@[simp] theorem Ow{f:FuncId}(h:keep.contains f=false)(x:AV)(H:Heap)(y:AV):qI env f x H y↔view H.get depth x=some y:=JD (Vt h) x H y
theorem Vs{f:FuncId}(h:keep.contains f=true):wP (env.mode f)=true:=by
 show wP (if keep.contains f then (if thr.contains f then 3 else 1) else if thr.contains f then 2 else 0)=true
 rw[h]
 cases thr.contains f<;>rfl
@[simp] theorem VA{f:FuncId}(h:keep.contains f=true)(x:AV)(H:Heap)(y:AV):qI env f x H y↔(aw H.get depth x).Nodup∧dB H.get depth x=some y:=EG (Vs h) x H y
@[simp] theorem UB:aX env.P 3=(some 1):=by kernel_rfl
@[simp] theorem Wp:tagg env.P 3=(some false):=by kernel_rfl
@[simp] theorem Vy:oa env.P 3=(some 1):=by kernel_rfl
@[simp] theorem Vz:isInt env.P 3=true:=by kernel_rfl
@[simp] theorem RP:intKind env.P 3=(some .i64):=by kernel_rfl
@[simp] theorem Wl:(env.P.underlying 3).isNone=false:=by kernel_rfl
@[simp] theorem UA:aX env.P 4=(some 1):=by kernel_rfl
@[simp] theorem Wo:tagg env.P 4=(some false):=by kernel_rfl
@[simp] theorem Vx:oa env.P 4=(some 0):=by kernel_rfl
@[simp] theorem TO:isBool env.P 4=true:=by kernel_rfl
@[simp] theorem Uz:aX env.P 5=(some 1):=by kernel_rfl
@[simp] theorem Wn:tagg env.P 5=(some false):=by kernel_rfl
@[simp] theorem Vw:oa env.P 5=(some 1):=by kernel_rfl
@[simp] theorem RO:intKind env.P 5=(some .u8):=by kernel_rfl
@[simp] theorem KF:aX env.P 21=(some 1):=by kernel_rfl
@[simp] theorem Ny:tagg env.P 21=(some false):=by kernel_rfl
@[simp] theorem PT:intKind env.P 21=(some .i32):=by kernel_rfl
@[simp] theorem Ux:(env.P.underlying 21).isNone=false:=by kernel_rfl
@[simp] theorem SV:aX env.P 22=(some 1):=by kernel_rfl
@[simp] theorem U3:tagg env.P 22=(some false):=by kernel_rfl
@[simp] theorem KJ:fc env.P 22=(some 58):=by kernel_rfl
@[simp] theorem UN:tarr env.P 22=none:=by kernel_rfl
@[simp] theorem TN:isStr env.P 22=false:=by kernel_rfl
@[simp] theorem WU:apT env.P 22=true:=by kernel_rfl
@[simp] theorem V4:elOk env.P 22=true:=by kernel_rfl
@[simp] theorem WL:elZ env.P 22=3:=by kernel_rfl
@[simp] theorem V9:elBy env.P 22=12:=by kernel_rfl
@[simp] theorem R9:jE env.P 22=(.agg [(a8 0),(a32 0),(.v (.bool false))]):=by kernel_rfl
@[simp] theorem SU:aX env.P 23=(some 1):=by kernel_rfl
@[simp] theorem U2:tagg env.P 23=(some false):=by kernel_rfl
@[simp] theorem KI:fc env.P 23=(some 81):=by kernel_rfl
@[simp] theorem UM:tarr env.P 23=none:=by kernel_rfl
@[simp] theorem TM:isStr env.P 23=false:=by kernel_rfl
@[simp] theorem WT:apT env.P 23=true:=by kernel_rfl
@[simp] theorem V3:elOk env.P 23=true:=by kernel_rfl
@[simp] theorem WK:elZ env.P 23=5:=by kernel_rfl
@[simp] theorem V8:elBy env.P 23=32:=by kernel_rfl
@[simp] theorem R8:jE env.P 23=(.agg [(a8 0),(a32 0),(.v (.int .i64 0)),(.v (.int .i64 0)),(.v (.int .i64 0))]):=by kernel_rfl
@[simp] theorem SS:aX env.P 25=(some 3):=by kernel_rfl
@[simp] theorem U1:tagg env.P 25=(some true):=by kernel_rfl
@[simp] theorem UL:tarr env.P 25=none:=by kernel_rfl
@[simp] theorem SF:gN env.P 25=(some (.agg [(.v (.slice none 0 0)),(.v (.slice none 0 0)),(.v (.int .i64 0))])):=by kernel_rfl
@[simp] theorem EV:fT env.P 25=(some [22,23,3]):=by kernel_rfl
@[simp] theorem Rp:il env.P 25=(some [(0,1),(1,1),(2,1)]):=by kernel_rfl
@[simp] theorem O6:ay env.P 25 0=(some (0,1)):=by kernel_rfl
@[simp] theorem OV:ay env.P 25 1=(some (1,1)):=by kernel_rfl
@[simp] theorem OK:ay env.P 25 2=(some (2,1)):=by kernel_rfl
@[simp] theorem SR:aX env.P 26=(some 1):=by kernel_rfl
@[simp] theorem U0:tagg env.P 26=(some false):=by kernel_rfl
@[simp] theorem KH:fc env.P 26=(some 62):=by kernel_rfl
@[simp] theorem UK:tarr env.P 26=none:=by kernel_rfl
@[simp] theorem TL:isStr env.P 26=false:=by kernel_rfl
@[simp] theorem WS:apT env.P 26=true:=by kernel_rfl
@[simp] theorem V2:elOk env.P 26=true:=by kernel_rfl
@[simp] theorem WJ:elZ env.P 26=24:=by kernel_rfl
@[simp] theorem V7:elBy env.P 26=160:=by kernel_rfl
@[simp] theorem R7:jE env.P 26=(.agg [(a8 0),(.v (.int .i64 0)),(a8 0),(a8 0),(a32 0),(a8 0),(.v (.int .i64 0)),(a8 0),(a32 0),(a8 0),(.v (.int .i64 0)),(.v (.int .i64 0)),(a8 0),(a32 0),(a8 0),(.v (.int .i64 0)),(a8 0),(a32 0),(.v (.slice none 0 0)),(.v (.int .i64 0)),(.v (.int .i64 0)),(a8 0),(a32 0),(.v (.bool false))]):=by kernel_rfl
@[simp] theorem SQ:aX env.P 27=(some 1):=by kernel_rfl
@[simp] theorem UZ:tagg env.P 27=(some false):=by kernel_rfl
@[simp] theorem TH:oa env.P 27=(some 1):=by kernel_rfl
@[simp] theorem PS:intKind env.P 27=(some .u32):=by kernel_rfl
@[simp] theorem Uw:(env.P.underlying 27).isNone=false:=by kernel_rfl
@[simp] theorem SP:aX env.P 29=(some 2):=by kernel_rfl
@[simp] theorem UY:tagg env.P 29=(some true):=by kernel_rfl
@[simp] theorem UJ:tarr env.P 29=none:=by kernel_rfl
@[simp] theorem SE:gN env.P 29=(some (.agg [(a8 0),(a32 0)])):=by kernel_rfl
@[simp] theorem TG:oa env.P 29=none:=by kernel_rfl
@[simp] theorem VS:eqTy env.P 29=true:=by kernel_rfl
@[simp] theorem EU:fT env.P 29=(some [5,27]):=by kernel_rfl
@[simp] theorem Ro:il env.P 29=(some [(0,1),(1,1)]):=by kernel_rfl
@[simp] theorem O5:ay env.P 29 0=(some (0,1)):=by kernel_rfl
@[simp] theorem OU:ay env.P 29 1=(some (1,1)):=by kernel_rfl
@[simp] theorem SO:aX env.P 31=(some 3):=by kernel_rfl
@[simp] theorem UX:tagg env.P 31=(some true):=by kernel_rfl
@[simp] theorem UI:tarr env.P 31=none:=by kernel_rfl
@[simp] theorem SD:gN env.P 31=(some (.agg [(a8 0),(a32 0),(a8 0)])):=by kernel_rfl
@[simp] theorem TF:oa env.P 31=none:=by kernel_rfl
@[simp] theorem VQ:eqTy env.P 31=true:=by kernel_rfl
@[simp] theorem ET:fT env.P 31=(some [29,5]):=by kernel_rfl
@[simp] theorem Rm:il env.P 31=(some [(0,2),(2,1)]):=by kernel_rfl
@[simp] theorem O4:ay env.P 31 0=(some (0,2)):=by kernel_rfl
@[simp] theorem OT:ay env.P 31 1=(some (2,1)):=by kernel_rfl
@[simp] theorem SN:aX env.P 33=(some 4):=by kernel_rfl
@[simp] theorem UW:tagg env.P 33=(some true):=by kernel_rfl
@[simp] theorem UH:tarr env.P 33=none:=by kernel_rfl
@[simp] theorem SC:gN env.P 33=(some (.agg [(a8 0),(a32 0),(a8 0),(.v (.int .i64 0))])):=by kernel_rfl
@[simp] theorem TE:oa env.P 33=none:=by kernel_rfl
@[simp] theorem VP:eqTy env.P 33=true:=by kernel_rfl
@[simp] theorem ES:fT env.P 33=(some [31,3]):=by kernel_rfl
@[simp] theorem Rl:il env.P 33=(some [(0,3),(3,1)]):=by kernel_rfl
@[simp] theorem O3:ay env.P 33 0=(some (0,3)):=by kernel_rfl
@[simp] theorem OS:ay env.P 33 1=(some (3,1)):=by kernel_rfl
@[simp] theorem SM:aX env.P 35=(some 5):=by kernel_rfl
@[simp] theorem UU:tagg env.P 35=(some true):=by kernel_rfl
@[simp] theorem TD:oa env.P 35=none:=by kernel_rfl
@[simp] theorem VO:eqTy env.P 35=true:=by kernel_rfl
@[simp] theorem ER:fT env.P 35=(some [33,3]):=by kernel_rfl
@[simp] theorem O2:ay env.P 35 0=(some (0,4)):=by kernel_rfl
@[simp] theorem OR:ay env.P 35 1=(some (4,1)):=by kernel_rfl
@[simp] theorem SL:aX env.P 36=(some 1):=by kernel_rfl
@[simp] theorem UT:tagg env.P 36=(some false):=by kernel_rfl
@[simp] theorem KG:fc env.P 36=(some 21):=by kernel_rfl
@[simp] theorem UG:tarr env.P 36=none:=by kernel_rfl
@[simp] theorem TK:isStr env.P 36=false:=by kernel_rfl
@[simp] theorem WR:apT env.P 36=true:=by kernel_rfl
@[simp] theorem V1:elOk env.P 36=true:=by kernel_rfl
@[simp] theorem WI:elZ env.P 36=1:=by kernel_rfl
@[simp] theorem V6:elBy env.P 36=4:=by kernel_rfl
@[simp] theorem R6:jE env.P 36=(.v (.int .i32 0)):=by kernel_rfl
@[simp] theorem SK:aX env.P 38=(some 17):=by kernel_rfl
@[simp] theorem US:tagg env.P 38=(some true):=by kernel_rfl
@[simp] theorem SB:gN env.P 38=(some (.agg [(a8 0),(a8 0),(a32 0),(a8 0),(.v (.int .i64 0)),(a8 0),(a32 0),(a8 0),(.v (.int .i64 0)),(.v (.int .i64 0)),(a8 0),(a32 0),(a8 0),(.v (.int .i64 0)),(a8 0),(a32 0),(.v (.slice none 0 0))])):=by kernel_rfl
@[simp] theorem EP:fT env.P 38=(some [5,31,3,35,33,29,36]):=by kernel_rfl
@[simp] theorem O1:ay env.P 38 0=(some (0,1)):=by kernel_rfl
@[simp] theorem OQ:ay env.P 38 1=(some (1,3)):=by kernel_rfl
@[simp] theorem OJ:ay env.P 38 2=(some (4,1)):=by kernel_rfl
@[simp] theorem OF:ay env.P 38 3=(some (5,5)):=by kernel_rfl
@[simp] theorem OC:ay env.P 38 4=(some (10,4)):=by kernel_rfl
@[simp] theorem OA:ay env.P 38 5=(some (14,2)):=by kernel_rfl
@[simp] theorem Oz:ay env.P 38 6=(some (16,1)):=by kernel_rfl
@[simp] theorem SJ:aX env.P 41=(some 1):=by kernel_rfl
@[simp] theorem UR:tagg env.P 41=(some false):=by kernel_rfl
@[simp] theorem SW:fc env.P 41=(some 38):=by kernel_rfl
@[simp] theorem UF:tarr env.P 41=none:=by kernel_rfl
@[simp] theorem TJ:isStr env.P 41=false:=by kernel_rfl
@[simp] theorem WQ:apT env.P 41=true:=by kernel_rfl
@[simp] theorem V0:elOk env.P 41=true:=by kernel_rfl
@[simp] theorem WH:elZ env.P 41=17:=by kernel_rfl
@[simp] theorem V5:elBy env.P 41=112:=by kernel_rfl
@[simp] theorem R5:jE env.P 41=(.agg [(a8 0),(a8 0),(a32 0),(a8 0),(.v (.int .i64 0)),(a8 0),(a32 0),(a8 0),(.v (.int .i64 0)),(.v (.int .i64 0)),(a8 0),(a32 0),(a8 0),(.v (.int .i64 0)),(a8 0),(a32 0),(.v (.slice none 0 0))]):=by kernel_rfl
@[simp] theorem SI:aX env.P 42=(some 1):=by kernel_rfl
@[simp] theorem UQ:tagg env.P 42=(some false):=by kernel_rfl
@[simp] theorem PR:intKind env.P 42=(some .i64):=by kernel_rfl
@[simp] theorem Uv:(env.P.underlying 42).isNone=false:=by kernel_rfl
@[simp] theorem KE:aX env.P 58=(some 3):=by kernel_rfl
@[simp] theorem Nx:tagg env.P 58=(some true):=by kernel_rfl
@[simp] theorem SA:gN env.P 58=(some (.agg [(a8 0),(a32 0),(.v (.bool false))])):=by kernel_rfl
@[simp] theorem TC:oa env.P 58=none:=by kernel_rfl
@[simp] theorem VN:eqTy env.P 58=true:=by kernel_rfl
@[simp] theorem yZ:fT env.P 58=(some [29,4]):=by kernel_rfl
@[simp] theorem O0:ay env.P 58 0=(some (0,2)):=by kernel_rfl
@[simp] theorem OP:ay env.P 58 1=(some (2,1)):=by kernel_rfl
@[simp] theorem SH:aX env.P 60=(some 4):=by kernel_rfl
@[simp] theorem UP:tagg env.P 60=(some true):=by kernel_rfl
@[simp] theorem TB:oa env.P 60=none:=by kernel_rfl
@[simp] theorem VM:eqTy env.P 60=true:=by kernel_rfl
@[simp] theorem EO:fT env.P 60=(some [3,58]):=by kernel_rfl
@[simp] theorem OZ:ay env.P 60 0=(some (0,1)):=by kernel_rfl
@[simp] theorem OO:ay env.P 60 1=(some (1,3)):=by kernel_rfl
@[simp] theorem KD:aX env.P 62=(some 24):=by kernel_rfl
@[simp] theorem Nw:tagg env.P 62=(some true):=by kernel_rfl
@[simp] theorem UE:tarr env.P 62=none:=by kernel_rfl
@[simp] theorem Sz:gN env.P 62=(some (.agg [(a8 0),(.v (.int .i64 0)),(a8 0),(a8 0),(a32 0),(a8 0),(.v (.int .i64 0)),(a8 0),(a32 0),(a8 0),(.v (.int .i64 0)),(.v (.int .i64 0)),(a8 0),(a32 0),(a8 0),(.v (.int .i64 0)),(a8 0),(a32 0),(.v (.slice none 0 0)),(.v (.int .i64 0)),(.v (.int .i64 0)),(a8 0),(a32 0),(.v (.bool false))])):=by kernel_rfl
@[simp] theorem EN:fT env.P 62=(some [5,3,38,42,60]):=by kernel_rfl
@[simp] theorem Rk:il env.P 62=(some [(0,1),(1,1),(2,17),(19,1),(20,4)]):=by kernel_rfl
@[simp] theorem OY:ay env.P 62 0=(some (0,1)):=by kernel_rfl
@[simp] theorem ON:ay env.P 62 1=(some (1,1)):=by kernel_rfl
@[simp] theorem OI:ay env.P 62 2=(some (2,17)):=by kernel_rfl
@[simp] theorem OE:ay env.P 62 3=(some (19,1)):=by kernel_rfl
@[simp] theorem OB:ay env.P 62 4=(some (20,4)):=by kernel_rfl
@[simp] theorem SG:aX env.P 73=(some 3):=by kernel_rfl
@[simp] theorem UO:tagg env.P 73=(some true):=by kernel_rfl
@[simp] theorem UD:tarr env.P 73=none:=by kernel_rfl
@[simp] theorem Sy:gN env.P 73=(some (.agg [(.v (.bool false)),(.v (.int .i64 0)),(.v (.int .i64 0))])):=by kernel_rfl
@[simp] theorem TA:oa env.P 73=none:=by kernel_rfl
@[simp] theorem VL:eqTy env.P 73=true:=by kernel_rfl
@[simp] theorem O8:fT env.P 73=(some [4,3,3]):=by kernel_rfl
@[simp] theorem Rj:il env.P 73=(some [(0,1),(1,1),(2,1)]):=by kernel_rfl
@[simp] theorem Nu:nB env.P 73 0=(some (0,4)):=by kernel_rfl
@[simp] theorem OX:ay env.P 73 0=(some (0,1)):=by kernel_rfl
@[simp] theorem OM:ay env.P 73 1=(some (1,1)):=by kernel_rfl
@[simp] theorem OH:ay env.P 73 2=(some (2,1)):=by kernel_rfl
@[simp] theorem KC:aX env.P 81=(some 5):=by kernel_rfl
@[simp] theorem Nv:tagg env.P 81=(some true):=by kernel_rfl
@[simp] theorem UC:tarr env.P 81=none:=by kernel_rfl
@[simp] theorem Sx:gN env.P 81=(some (.agg [(a8 0),(a32 0),(.v (.int .i64 0)),(.v (.int .i64 0)),(.v (.int .i64 0))])):=by kernel_rfl
@[simp] theorem Tz:oa env.P 81=none:=by kernel_rfl
@[simp] theorem VK:eqTy env.P 81=true:=by kernel_rfl
@[simp] theorem EM:fT env.P 81=(some [29,3,3,3]):=by kernel_rfl
@[simp] theorem Ri:il env.P 81=(some [(0,2),(2,1),(3,1),(4,1)]):=by kernel_rfl
@[simp] theorem OW:ay env.P 81 0=(some (0,2)):=by kernel_rfl
@[simp] theorem OL:ay env.P 81 1=(some (2,1)):=by kernel_rfl
@[simp] theorem OG:ay env.P 81 2=(some (3,1)):=by kernel_rfl
@[simp] theorem Nt:nB env.P 81 3=(some (4,3)):=by kernel_rfl
@[simp] theorem OD:ay env.P 81 3=(some (4,1)):=by kernel_rfl
@[simp] theorem QL:aX env.P 126=(some 1):=by kernel_rfl
@[simp] theorem Ti:tagg env.P 126=(some false):=by kernel_rfl
@[simp] theorem QK:aX env.P 127=(some 1):=by kernel_rfl
@[simp] theorem Th:tagg env.P 127=(some false):=by kernel_rfl
@[simp] theorem QJ:aX env.P 129=(some 10):=by kernel_rfl
@[simp] theorem S6:tarr env.P 129=none:=by kernel_rfl
@[simp] theorem Qv:gN env.P 129=(some (.agg [(.v (.slice none 0 0)),(.v (.slice none 0 0)),(.v (.int .i64 0)),(.v (.slice none 0 0)),(.v (.slice none 0 0)),(.v (.int .i64 0)),(.v (.slice none 0 0)),(.v (.map none)),(.v (.map none)),(.v (.slice none 0 0))])):=by kernel_rfl
@[simp] theorem PI:il env.P 129=(some [(0,3),(3,3),(6,1),(7,1),(8,1),(9,1)]):=by kernel_rfl
@[simp] theorem M9:ay env.P 129 0=(some (0,3)):=by kernel_rfl
@[simp] theorem M5:ay env.P 129 1=(some (3,3)):=by kernel_rfl
@[simp] theorem MY:ay env.P 129 2=(some (6,1)):=by kernel_rfl
@[simp] theorem MW:ay env.P 129 3=(some (7,1)):=by kernel_rfl
@[simp] theorem MV:ay env.P 129 4=(some (8,1)):=by kernel_rfl
@[simp] theorem MU:ay env.P 129 5=(some (9,1)):=by kernel_rfl
@[simp] theorem QI:aX env.P 137=(some 1):=by kernel_rfl
@[simp] theorem Tg:tagg env.P 137=(some false):=by kernel_rfl
@[simp] theorem QH:aX env.P 147=(some 1):=by kernel_rfl
@[simp] theorem Tf:tagg env.P 147=(some false):=by kernel_rfl
@[simp] theorem QG:aX env.P 148=(some 1):=by kernel_rfl
@[simp] theorem Te:tagg env.P 148=(some false):=by kernel_rfl
@[simp] theorem Ms:nB env.P 150 0=(some (0,147)):=by kernel_rfl
@[simp] theorem Mq:nB env.P 150 1=(some (1,148)):=by kernel_rfl
@[simp] theorem QF:aX env.P 170=(some 1):=by kernel_rfl
@[simp] theorem Td:tagg env.P 170=(some false):=by kernel_rfl
@[simp] theorem QQ:fc env.P 170=(some 5):=by kernel_rfl
@[simp] theorem S5:tarr env.P 170=none:=by kernel_rfl
@[simp] theorem RN:isStr env.P 170=false:=by kernel_rfl
@[simp] theorem Wj:apT env.P 170=true:=by kernel_rfl
@[simp] theorem Ub:elOk env.P 170=true:=by kernel_rfl
@[simp] theorem VZ:elZ env.P 170=1:=by kernel_rfl
@[simp] theorem Ue:elBy env.P 170=1:=by kernel_rfl
@[simp] theorem P9:jE env.P 170=(a8 0):=by kernel_rfl
@[simp] theorem QE:aX env.P 173=(some 24):=by kernel_rfl
@[simp] theorem S4:tarr env.P 173=none:=by kernel_rfl
@[simp] theorem Qu:gN env.P 173=(some (.agg [(a8 0),(.v (.int .i64 0)),(a8 0),(a8 0),(a32 0),(a8 0),(.v (.int .i64 0)),(a8 0),(a32 0),(a8 0),(.v (.int .i64 0)),(.v (.int .i64 0)),(a8 0),(a32 0),(a8 0),(.v (.int .i64 0)),(a8 0),(a32 0),(.v (.slice none 0 0)),(.v (.int .i64 0)),(.v (.int .i64 0)),(a8 0),(a32 0),(.v (.bool false))])):=by kernel_rfl
@[simp] theorem PH:il env.P 173=(some [(0,24)]):=by kernel_rfl
@[simp] theorem M8:ay env.P 173 0=(some (0,24)):=by kernel_rfl
@[simp] theorem QD:aX env.P 180=(some 1):=by kernel_rfl
@[simp] theorem Tc:tagg env.P 180=(some false):=by kernel_rfl
@[simp] theorem QC:aX env.P 203=(some 2):=by kernel_rfl
@[simp] theorem Tb:tagg env.P 203=(some true):=by kernel_rfl
@[simp] theorem Mr:nB env.P 203 0=(some (0,137)):=by kernel_rfl
@[simp] theorem S3:tarr env.P 204=(some (4,203)):=by kernel_rfl
@[simp] theorem QB:aX env.P 230=(some 1):=by kernel_rfl
@[simp] theorem Ta:tagg env.P 230=(some false):=by kernel_rfl
@[simp] theorem QP:fc env.P 244=(some 33):=by kernel_rfl
@[simp] theorem S2:tarr env.P 244=none:=by kernel_rfl
@[simp] theorem RM:isStr env.P 244=false:=by kernel_rfl
@[simp] theorem Wi:apT env.P 244=true:=by kernel_rfl
@[simp] theorem Ua:elOk env.P 244=true:=by kernel_rfl
@[simp] theorem VY:elZ env.P 244=4:=by kernel_rfl
@[simp] theorem Ud:elBy env.P 244=24:=by kernel_rfl
@[simp] theorem P8:jE env.P 244=(.agg [(a8 0),(a32 0),(a8 0),(.v (.int .i64 0))]):=by kernel_rfl
@[simp] theorem QA:aX env.P 249=(some 10):=by kernel_rfl
@[simp] theorem S9:tagg env.P 249=(some true):=by kernel_rfl
@[simp] theorem S1:tarr env.P 249=none:=by kernel_rfl
@[simp] theorem Qt:gN env.P 249=(some (.agg [(a8 0),(a32 0),(a8 0),(.v (.int .i64 0)),(.v (.int .i64 0)),(a8 0),(a32 0),(a8 0),(.v (.int .i64 0)),(.v (.slice none 0 0))])):=by kernel_rfl
@[simp] theorem PG:il env.P 249=(some [(0,5),(5,4),(9,1)]):=by kernel_rfl
@[simp] theorem M7:ay env.P 249 0=(some (0,5)):=by kernel_rfl
@[simp] theorem M4:ay env.P 249 1=(some (5,4)):=by kernel_rfl
@[simp] theorem MX:ay env.P 249 2=(some (9,1)):=by kernel_rfl
@[simp] theorem QO:fc env.P 262=(some 4):=by kernel_rfl
@[simp] theorem S0:tarr env.P 262=none:=by kernel_rfl
@[simp] theorem RL:isStr env.P 262=false:=by kernel_rfl
@[simp] theorem T8:elOk env.P 262=true:=by kernel_rfl
@[simp] theorem VX:elZ env.P 262=1:=by kernel_rfl
@[simp] theorem P7:jE env.P 262=(.v (.bool false)):=by kernel_rfl
@[simp] theorem Qz:aX env.P 264=(some 1):=by kernel_rfl
@[simp] theorem S8:tagg env.P 264=(some false):=by kernel_rfl
@[simp] theorem Qy:aX env.P 266=(some 2):=by kernel_rfl
@[simp] theorem SZ:tarr env.P 266=none:=by kernel_rfl
@[simp] theorem Qs:gN env.P 266=(some (.agg [(.v (.slice none 0 0)),(.v (.map none))])):=by kernel_rfl
@[simp] theorem PF:il env.P 266=(some [(0,1),(1,1)]):=by kernel_rfl
@[simp] theorem M6:ay env.P 266 0=(some (0,1)):=by kernel_rfl
@[simp] theorem MZ:ay env.P 266 1=(some (1,1)):=by kernel_rfl
@[simp] theorem Qx:aX env.P 277=(some 1):=by kernel_rfl
@[simp] theorem S7:tagg env.P 277=(some false):=by kernel_rfl
@[simp] theorem QN:fc env.P 277=(some 29):=by kernel_rfl
@[simp] theorem SY:tarr env.P 277=none:=by kernel_rfl
@[simp] theorem RK:isStr env.P 277=false:=by kernel_rfl
@[simp] theorem Qr:gN env.P 277=(some (.v (.slice none 0 0))):=by kernel_rfl
@[simp] theorem Wh:apT env.P 277=true:=by kernel_rfl
@[simp] theorem T6:elOk env.P 277=true:=by kernel_rfl
@[simp] theorem VW:elZ env.P 277=2:=by kernel_rfl
@[simp] theorem Uc:elBy env.P 277=8:=by kernel_rfl
@[simp] theorem P6:jE env.P 277=(.agg [(a8 0),(a32 0)]):=by kernel_rfl
@[simp] theorem QM:fc env.P 279=(some 170):=by kernel_rfl
@[simp] theorem SX:tarr env.P 279=none:=by kernel_rfl
@[simp] theorem RJ:isStr env.P 279=false:=by kernel_rfl
@[simp] theorem T4:elOk env.P 279=true:=by kernel_rfl
@[simp] theorem VV:elZ env.P 279=1:=by kernel_rfl
@[simp] theorem P5:jE env.P 279=(.v (.slice none 0 0)):=by kernel_rfl
end Go.Proofs.YtmkmimgokagimaaGreat
