/-
  The facts on the program's types, computed. No statement of a seat is proved here.
-/
import Derived.Test.YtmkmimgokagimaaGreatRows
import Derived.Test.YtmkmimgokagimaaGreatAbsRules
set_option linter.unusedVariables false
set_option maxRecDepth 1000000
namespace Go.Proofs.YtmkmimgokagimaaGreat
open Go.Ab
def fns:List FuncId:=[4,5,7,8,10,11,12,13,14,15,17,19,21,22,23,24,25,26,27,28,29,30,31,32,33,34,35,42,43,44,45,46,47,49,52,55,56,57,58,59,60,61,62,63,64,65,66,68,69,70,71,72,73,74,75,76,77,78,80,81,82,83,84,85,86,87,88,89,90,91,92,93,94,95,96,97,98,99,100,101,102,103,104,105,106,107,108,109,110,111,112,113,114,115,116,117,118,119,120,121,122,123,124,125,126,127,130,131,132,133,134,135,136,137,138,139,140,141,142,143,144,145,146,147,148,149,150,151,152,153,154,155,156,157,158,159,160,161,162,163,164,165,166,167,168,169,170,171,172,173,174,175,176,177,178,179,180,181,182,183,184,185,186,187,188,189,190,191,192,193,194,195,196,197,198,199,200,201,202,203,204,205,206,207,208,209,210,211,212,213,214,215,216,217,218,219,220,221,222,223,224,225,226,227,228,229,230,231,232,233,234,235,236,237,238,239,240,241,242,243,244,245,246,247,248,249,250,251]
def keep:List FuncId:=[84,160,162,173,205,206,209,225]
def thr:List FuncId:=[64,65,69,71,72,75,77,81,83,87,88,90,92,95,97,98,100,145,146,147,148,149,150,151,153,172,193,218,219,220,230,232,233,234,241,242,250]
def memo:List (FuncId × List AV × AV):=[(53,[],.v (.bool true))]
noncomputable def env:Env:=A8 Tryz.prog fns keep thr (FR [(19,13,18),(16,1,77777),(55,1,88888),(35,147,88889),(55,72,88889),(10,48,88889),(10,50,88889),(7,5,66666),(20,160,88889)]) (uO [(15,12,0,[(20,23)]),(52,10,0,[(56,58)]),(25,34,4,[(44,43)]),(6,21,0,[(16,4),(20,4),(17,4)]),(58,23,0,[(71,61),(4,61),(5,61),(5,68)]),(7,6,0,[(3,5)]),(64,16,17,[(5,66),(66,7)]),(143,16,25,[(5,145),(145,7),(145,9)])]) (MO [(19,13,18),(16,1,77777),(55,1,88888),(35,147,88889),(55,72,88889),(10,48,88889),(10,50,88889),(7,5,66666),(20,160,88889)]) memo (fun _=>false) (fun _=>none) (fun _ _ _=>none) Gv
@[simp] noncomputable def Za(b:Bool)(h:Heap)(n:Nat)(n2:Nat)(a:List AV):=aG env b (limf env) (limt env 0) h (Ref.mk 0 n (Heap.gen h 0 n) 0) (some (AV.fn (Fn.func n2) [] [])) a
@[simp] noncomputable def Zb(h:Heap)(n:Nat)(v:AV):=ai env.P (Heap.get h) n (some v)
@[simp] noncomputable def Zc(h:Heap)(n:Nat)(n2:Nat)(v:AV):=nRes h (Ref.mk 0 n (Heap.gen h 0 n) 0) (qBox env.P (Ref.mk 0 n (Heap.gen h 0 n) 0) n2 (some v))
@[simp] noncomputable def Zd(n:Nat)(v:AV)(n2:Nat):=aa env.P n (some v) n2
@[simp] noncomputable def Ze(n:Nat)(n2:Nat)(i:Int)(v:AV):=qBin env.P .neq n (Operand.tmp n2) (Operand.const (Value.int IntKind.i64 i)) (some v) (some (AV.v (Value.int IntKind.i64 i)))
@[simp] noncomputable def Zf(v:AV)(v2:AV):=aM (some v) (some v2) (some (AV.v (Value.bool false)))
@[simp] noncomputable def Zg(h:Heap)(n:Nat)(n2:Nat):=nRes h (Ref.mk 0 n (Heap.gen h 0 n) 0) (bq env.P (Ref.mk 0 n (Heap.gen h 0 n) 0) n2)
@[simp] noncomputable def Zh(n:Nat)(n2:Nat)(i:Int)(v:AV):=qBin env.P .add n (Operand.tmp n2) (Operand.const (Value.int IntKind.i64 i)) (some v) (some (AV.v (Value.int IntKind.i64 i)))
@[simp] noncomputable def Zi(n:Nat)(n2:Nat)(i:Int)(v:AV):=qBin env.P .eql n (Operand.tmp n2) (Operand.const (Value.int IntKind.i64 i)) (some v) (some (AV.v (Value.int IntKind.i64 i)))
@[simp] noncomputable def Zj(h:Heap)(n:Nat)(n2:Nat)(n3:Nat)(v:AV):=nRes h (Ref.mk (n+1) n2 (Heap.gen h (n+1) n2) 0) (qBox env.P (Ref.mk (n+1) n2 (Heap.gen h (n+1) n2) 0) n3 (some v))
@[simp] noncomputable def Zk(h:Heap)(n:Nat)(n2:Nat)(v:AV):=aA env.P false (Heap.get h) (Ref.mk 0 n (Heap.gen h 0 n) 0) .len #[n2] [v]
@[simp] noncomputable def Zl(h:Heap)(n:Nat)(v:AV)(v2:AV):=aC env.P h n (some v) (some v2)
@[simp] noncomputable def Zm(n:Nat)(n2:Nat)(n3:Nat)(v:AV)(v2:AV):=qBin env.P .eql n (Operand.tmp n2) (Operand.tmp n3) (some v) (some v2)
@[simp] noncomputable def Zn(h:Heap)(n:Nat)(n2:Nat)(n3:Nat):=nRes h (Ref.mk (n+1) n2 (Heap.gen h (n+1) n2) 0) (bq env.P (Ref.mk (n+1) n2 (Heap.gen h (n+1) n2) 0) n3)
@[simp] noncomputable def Zo(v:AV)(v2:AV):=aM (some v) (some (AV.v (Value.bool true))) (some v2)
@[simp] noncomputable def Zp(n:Nat)(n2:Nat)(n3:Nat)(v:AV)(v2:AV):=qBin env.P .lss n (Operand.tmp n2) (Operand.tmp n3) (some v) (some v2)
@[simp] noncomputable def Zq(n:Nat)(n2:Nat)(i:Int)(v:AV):=qBin env.P .geq n (Operand.tmp n2) (Operand.const (Value.int IntKind.i64 i)) (some v) (some (AV.v (Value.int IntKind.i64 i)))
@[simp] noncomputable def Zr(n:Nat)(n2:Nat)(i:Int)(v:AV):=qBin env.P .gtr n (Operand.tmp n2) (Operand.const (Value.int IntKind.i64 i)) (some v) (some (AV.v (Value.int IntKind.i64 i)))
@[simp] noncomputable def Zs(n:Nat)(n2:Nat)(i:Int)(v:AV):=qBin env.P .lss n (Operand.tmp n2) (Operand.const (Value.int IntKind.i64 i)) (some v) (some (AV.v (Value.int IntKind.i64 i)))
@[simp] noncomputable def Zt(h:Heap)(n:Nat)(n2:Nat)(n3:Nat)(v:AV)(v2:AV):=cO env.P true h (Ref.mk 0 n (Heap.gen h 0 n) 0) (some n2) (some n3) v v2
@[simp] noncomputable def Zu(h:Heap)(n:Nat)(v:AV)(v2:AV):=aH env.P (Heap.get h) n (some v) (some v2)
@[simp] noncomputable def Zv(h:Heap)(n:Nat)(n2:Nat)(n3:Nat)(v:AV):=cL env.P (Heap.get h) (Ref.mk 0 n (Heap.gen h 0 n) 0) n2 n3 (some v)
@[simp] noncomputable def Zw(v:AV)(n:Nat):=aq (some v) n
@[simp] noncomputable def Zx(n:Nat)(n2:Nat)(i:Int)(v:AV):=qBin env.P .sub n (Operand.tmp n2) (Operand.const (Value.int IntKind.i64 i)) (some v) (some (AV.v (Value.int IntKind.i64 i)))
@[simp] noncomputable def Zy(n:Nat)(n2:Nat)(i:Int)(v:AV):=qBin env.P .leq n (Operand.tmp n2) (Operand.const (Value.int IntKind.i64 i)) (some v) (some (AV.v (Value.int IntKind.i64 i)))
@[simp] noncomputable def Zz(v:AV):=qUn env.P .not (some v)
@[simp] noncomputable def ZA(h:Heap)(n:Nat)(n2:Nat)(n3:Nat)(v:AV):=aA env.P false (Heap.get h) (Ref.mk (n+1) n2 (Heap.gen h (n+1) n2) 0) .len #[n3] [v]
@[simp] noncomputable def ZB(n:Nat)(n2:Nat)(n3:Nat)(v:AV)(v2:AV):=qBin env.P .neq n (Operand.tmp n2) (Operand.tmp n3) (some v) (some v2)
@[simp] noncomputable def ZC(n:Nat)(h:Heap)(n2:Nat)(v:AV)(v2:AV):=aG env true (limf env) (limt env (n+1)) h (Ref.mk (n+1) n2 (Heap.gen h (n+1) n2) 0) (some v) [v2]
@[simp] noncomputable def ZD(h:Heap)(n:Nat)(n2:Nat)(n3:Nat)(n4:Nat)(v:AV):=gm env.P false true h (Ref.mk 0 n (Heap.gen h 0 n) 0) n2 n3 (some [(n4,v)])
@[simp] noncomputable def ZE(n:Nat)(h:Heap)(n2:Nat)(v:AV)(v2:AV):=aG env true (limf env) (limt env (n+1)) h (Ref.mk (n+1) n2 (Heap.gen h (n+1) n2) 0) (some (.fn (.func 100) [] [])) [v,v2]
@[simp] noncomputable def ZF(n:Nat)(n2:Nat)(n3:Nat)(v:AV)(v2:AV):=qBin env.P .add n (Operand.tmp n2) (Operand.tmp n3) (some v) (some v2)
@[simp] noncomputable def ZG(h:Heap)(n:Nat)(v:AV)(v2:AV):=aG env true (limf env) (limt env 0) h (Ref.mk 0 n (Heap.gen h 0 n) 0) (some v) [v2]
@[simp] noncomputable def ZH(h:Heap)(n:Nat)(v:AV)(v2:AV):=cE env.P (Heap.get h) n (some v) (some v2) false
@[simp] noncomputable def ZI(v:AV):=qVal (some v)
@[simp] noncomputable def ZJ(h:Heap)(n:Nat)(v:AV)(v2:AV):=fc env.P (Heap.get h) n (some v) (some none) (oi v2) (some none)
@[simp] noncomputable def ZK(n:Nat)(h:Heap)(n2:Nat)(v:AV)(v2:AV)(v3:AV):=aG env true (limf env) (limt env (n+1)) h (Ref.mk (n+1) n2 (Heap.gen h (n+1) n2) 0) (some v) [v2,v3]
@[simp] noncomputable def ZL(n:Nat)(n2:Nat)(v:AV):=qBin env.P .eql n (Operand.tmp n2) (.const (.int .u8 1)) (some v) (some (a8 1))
@[simp] noncomputable def ZM(n:Nat)(h:Heap)(n2:Nat)(v:AV):=aG env true (limf env) (limt env (n+1)) h (Ref.mk (n+1) n2 (Heap.gen h (n+1) n2) 0) (some (.fn (.func 213) [] [])) [v]
@[simp] noncomputable def ZN(h:Heap)(n:Nat)(n2:Nat):=nRes h (Ref.mk (n+1) n2 (Heap.gen h (n+1) n2) 0) (some (.mp (Ref.mk (n+1) n2 (Heap.gen h (n+1) n2) 0),[bm []]))
@[simp] noncomputable def ZO(n:Nat)(n2:Nat)(n3:Nat)(v:AV)(v2:AV):=qBin env.P .geq n (Operand.tmp n2) (Operand.tmp n3) (some v) (some v2)
@[simp] noncomputable def ZP(n:Nat)(n2:Nat)(v:AV)(n3:Nat)(v2:AV):=bI env.P n (some [(n2,v),(n3,v2)])
@[simp] noncomputable def ZQ(v:AV):=qNil (some v)
@[simp] noncomputable def ZR(h:Heap)(n:Nat)(n2:Nat)(n3:Nat)(n4:Nat)(v:AV):=gm env.P true false h (Ref.mk 0 n (Heap.gen h 0 n) 0) n2 n3 (some [(n4,v)])
@[simp] noncomputable def ZS(n:Nat):=bI env.P n (some [])
@[simp] noncomputable def ZT(n:Nat)(n2:Nat)(v:AV):=qBin env.P .eql n (Operand.tmp n2) (.const (.slice none 0 0)) (some v) (some (.v (.slice none 0 0)))
@[simp] noncomputable def ZU(n:Nat)(n2:Nat)(n3:Nat)(v:AV)(v2:AV):=qBin env.P .sub n (Operand.tmp n2) (Operand.tmp n3) (some v) (some v2)
@[simp] noncomputable def ZV(h:Heap)(v:AV)(n:Nat):=ba env.P h v n
@[simp] noncomputable def ZW(h:Heap)(n:Nat)(n2:Nat)(v:AV):=aA env.P false (Heap.get h) (Ref.mk 0 n (Heap.gen h 0 n) 0) .cap #[n2] [v]
@[simp] noncomputable def ZX(n:Nat)(n2:Nat)(v:AV):=qBin env.P .shr n (Operand.tmp n2) (.const (.int .u64 8)) (some v) (some (.v (.int .u64 8)))
@[simp] noncomputable def ZY(h:Heap)(n:Nat)(n2:Nat)(n3:Nat)(v:AV):=cO env.P false h (Ref.mk 0 n (Heap.gen h 0 n) 0) (some n2) (some n3) (.v (.slice none 0 0)) v
@[simp] noncomputable def ZZ(n:Nat)(i:Int)(n2:Nat)(v:AV):=qBin env.P .mul n (Operand.const (Value.int IntKind.i64 i)) (Operand.tmp n2) (some (AV.v (Value.int IntKind.i64 i))) (some v)
@[simp] noncomputable def Z0(n:Nat)(h:Heap)(n2:Nat)(v:AV)(v2:AV):=aG env false (limf env) (limt env (n+1)) h (Ref.mk (n+1) n2 (Heap.gen h (n+1) n2) 0) (some (.fn (.func 152) [] [])) [v,v2]
@[simp] noncomputable def Z1(n:Nat)(h:Heap)(n2:Nat)(v:AV)(v2:AV):=aG env false (limf env) (limt env (n+1)) h (Ref.mk (n+1) n2 (Heap.gen h (n+1) n2) 0) (some (.fn (.func 44) [] [])) [v,v2]
@[simp] noncomputable def Z2(n:Nat)(h:Heap)(n2:Nat)(v:AV)(v2:AV):=aG env true (limf env) (limt env (n+1)) h (Ref.mk (n+1) n2 (Heap.gen h (n+1) n2) 0) (some (.fn (.func 146) [] [])) [v,v2]
@[simp] noncomputable def Z3(n:Nat)(h:Heap)(n2:Nat)(v:AV)(v2:AV)(v3:AV):=aG env true (limf env) (limt env (n+1)) h (Ref.mk (n+1) n2 (Heap.gen h (n+1) n2) 0) (some (.fn (.func 230) [] [])) [v,v2,v3]
@[simp] noncomputable def Z4(n:Nat)(h:Heap)(n2:Nat)(v:AV)(v2:AV):=aG env true (limf env) (limt env (n+1)) h (Ref.mk (n+1) n2 (Heap.gen h (n+1) n2) 0) (some (.fn (.func 232) [] [])) [v,v2]
@[simp] noncomputable def Z5(n:Nat)(h:Heap)(n2:Nat)(v:AV)(v2:AV):=aG env true (limf env) (limt env (n+1)) h (Ref.mk (n+1) n2 (Heap.gen h (n+1) n2) 0) (some (.fn (.func 234) [] [])) [v,v2]
@[simp] noncomputable def Z6(n:Nat)(n2:Nat)(v:AV):=qBin env.P .eql n (Operand.tmp n2) (.const (.int .u8 3)) (some v) (some (a8 3))
@[simp] noncomputable def Z7(h:Heap)(n:Nat)(n2:Nat)(n3:Nat)(n4:Nat)(n5:Nat)(v:AV):=gm env.P true false h (Ref.mk (n+1) n2 (Heap.gen h (n+1) n2) 0) n3 n4 (some [(n5,v)])
@[simp] noncomputable def Z8(h:Heap)(n:Nat)(n2:Nat)(n3:Nat)(n4:Nat)(v:AV)(v2:AV):=cO env.P true h (Ref.mk (n+1) n2 (Heap.gen h (n+1) n2) 0) (some n3) (some n4) v v2
@[simp] noncomputable def Z9(h:Heap)(n:Nat)(n2:Nat)(n3:Nat)(v:AV)(v2:AV):=aA env.P true (Heap.get h) (Ref.mk 0 n (Heap.gen h 0 n) 0) .max #[n2,n3] [v,v2]
@[simp] noncomputable def Yb(n:Nat)(n2:Nat)(v:AV):=bI env.P n (some [(0,(.fn (.func 118) [] [])),(n2,v)])
@[simp] noncomputable def Yc(h:Heap)(n:Nat)(n2:Nat)(n3:Nat):=gm env.P false true h (Ref.mk 0 n (Heap.gen h 0 n) 0) n2 n3 (some [])
@[simp] noncomputable def Yd(n:Nat)(n2:Nat)(v:AV):=qBin env.P .shr n (Operand.tmp n2) (.const (.int .u64 16)) (some v) (some (.v (.int .u64 16)))
@[simp] noncomputable def Ye(n:Nat)(n2:Nat)(n3:Nat)(v:AV)(v2:AV):=qBin env.P .leq n (Operand.tmp n2) (Operand.tmp n3) (some v) (some v2)
@[simp] noncomputable def Yf(n:Nat)(n2:Nat)(n3:Nat)(v:AV)(v2:AV):=qBin env.P .gtr n (Operand.tmp n2) (Operand.tmp n3) (some v) (some v2)
@[simp] noncomputable def Yg(h:Heap)(n:Nat)(v:AV):=aG env true (limf env) (limt env 0) h (Ref.mk 0 n (Heap.gen h 0 n) 0) (some v) []
@[simp] noncomputable def Yh(n:Nat)(n2:Nat)(v:AV):=bI env.P n (some [(n2,v)])
@[simp] noncomputable def Yi(h:Heap)(v:AV)(v2:AV)(v3:AV):=cB h (some v) (some v2) (some v3)
@[simp] noncomputable def Yj(h:Heap)(n:Nat)(v:AV)(v2:AV):=dy env.P h n (some v) (some v2)
theorem J3:J2 env fns=true:=by kernel_rfl
@[simp] theorem XQ{f:FuncId}(h:thr.contains f=false):(env.mode f == 2)=false:=by
 show((if keep.contains f then (if thr.contains f then 3 else 1) else if thr.contains f then 2 else 0) == 2)=false
 rw[h]
 split<;>rfl
@[simp] theorem WG{f:FuncId}(h:thr.contains f=false):(env.mode f == 3)=false:=by
 show((if keep.contains f then (if thr.contains f then 3 else 1) else if thr.contains f then 2 else 0) == 3)=false
 rw[h]
 split<;>rfl
theorem WK{f:FuncId}(h:keep.contains f=false):xw (env.mode f)=false:=by
 show xw (if keep.contains f then (if thr.contains f then 3 else 1) else if thr.contains f then 2 else 0)=false
 rw[h]
 cases thr.contains f<;>rfl
@[simp] theorem O4{f:FuncId}(h:keep.contains f=false)(x:AV)(H:Heap)(y:AV):rF env f x H y↔view H.get depth x=some y:=JY (WK h) x H y
theorem WJ{f:FuncId}(h:keep.contains f=true):xw (env.mode f)=true:=by
 show xw (if keep.contains f then (if thr.contains f then 3 else 1) else if thr.contains f then 2 else 0)=true
 rw[h]
 cases thr.contains f<;>rfl
@[simp] theorem WS{f:FuncId}(h:keep.contains f=true)(x:AV)(H:Heap)(y:AV):rF env f x H y↔(ay H.get depth x).Nodup∧du H.get depth x=some y:=E8 (WJ h) x H y
@[simp] theorem VG:aP env.P 3=(some 1):=by kernel_rfl
@[simp] theorem XE:tagg env.P 3=(some false):=by kernel_rfl
@[simp] theorem WQ:pd env.P 3=(some 1):=by kernel_rfl
@[simp] theorem WR:isInt env.P 3=true:=by kernel_rfl
@[simp] theorem SI:intKind env.P 3=(some .i64):=by kernel_rfl
@[simp] theorem XA:(env.P.underlying 3).isNone=false:=by kernel_rfl
@[simp] theorem VF:aP env.P 4=(some 1):=by kernel_rfl
@[simp] theorem XD:tagg env.P 4=(some false):=by kernel_rfl
@[simp] theorem VD:fC env.P 4=(some (.v (.bool false))):=by kernel_rfl
@[simp] theorem WO:pd env.P 4=(some 0):=by kernel_rfl
@[simp] theorem UZ:isBool env.P 4=true:=by kernel_rfl
@[simp] theorem VE:aP env.P 5=(some 1):=by kernel_rfl
@[simp] theorem XC:tagg env.P 5=(some false):=by kernel_rfl
@[simp] theorem WN:pd env.P 5=(some 1):=by kernel_rfl
@[simp] theorem SH:intKind env.P 5=(some .u8):=by kernel_rfl
@[simp] theorem KU:aP env.P 21=(some 1):=by kernel_rfl
@[simp] theorem Oa:tagg env.P 21=(some false):=by kernel_rfl
@[simp] theorem Qw:intKind env.P 21=(some .i32):=by kernel_rfl
@[simp] theorem VB:(env.P.underlying 21).isNone=false:=by kernel_rfl
@[simp] theorem TN:aP env.P 22=(some 1):=by kernel_rfl
@[simp] theorem Wa:tagg env.P 22=(some false):=by kernel_rfl
@[simp] theorem KY:eJ env.P 22=(some 58):=by kernel_rfl
@[simp] theorem VU:tarr env.P 22=none:=by kernel_rfl
@[simp] theorem UY:isStr env.P 22=false:=by kernel_rfl
@[simp] theorem X7:apT env.P 22=true:=by kernel_rfl
@[simp] theorem Xj:elOk env.P 22=true:=by kernel_rfl
@[simp] theorem XZ:elZ env.P 22=3:=by kernel_rfl
@[simp] theorem Xo:elBy env.P 22=12:=by kernel_rfl
@[simp] theorem S3:iT env.P 22=(.agg [(a8 0),(a32 0),(.v (.bool false))]):=by kernel_rfl
@[simp] theorem TM:aP env.P 23=(some 1):=by kernel_rfl
@[simp] theorem V9:tagg env.P 23=(some false):=by kernel_rfl
@[simp] theorem KX:eJ env.P 23=(some 81):=by kernel_rfl
@[simp] theorem VT:tarr env.P 23=none:=by kernel_rfl
@[simp] theorem UX:isStr env.P 23=false:=by kernel_rfl
@[simp] theorem X6:apT env.P 23=true:=by kernel_rfl
@[simp] theorem Xi:elOk env.P 23=true:=by kernel_rfl
@[simp] theorem XY:elZ env.P 23=5:=by kernel_rfl
@[simp] theorem Xn:elBy env.P 23=32:=by kernel_rfl
@[simp] theorem S2:iT env.P 23=(.agg [(a8 0),(a32 0),(.v (.int .i64 0)),(.v (.int .i64 0)),(.v (.int .i64 0))]):=by kernel_rfl
@[simp] theorem TL:aP env.P 25=(some 3):=by kernel_rfl
@[simp] theorem V8:tagg env.P 25=(some true):=by kernel_rfl
@[simp] theorem VS:tarr env.P 25=none:=by kernel_rfl
@[simp] theorem Tx:fC env.P 25=(some (.agg [(.v (.slice none 0 0)),(.v (.slice none 0 0)),(.v (.int .i64 0))])):=by kernel_rfl
@[simp] theorem Fl:fM env.P 25=(some [22,23,3]):=by kernel_rfl
@[simp] theorem Sj:e9 env.P 25=(some [(0,1),(1,1),(2,1)]):=by kernel_rfl
@[simp] theorem PF:ax env.P 25 0=(some (0,1)):=by kernel_rfl
@[simp] theorem Pu:ax env.P 25 1=(some (1,1)):=by kernel_rfl
@[simp] theorem Pj:ax env.P 25 2=(some (2,1)):=by kernel_rfl
@[simp] theorem TK:aP env.P 26=(some 1):=by kernel_rfl
@[simp] theorem V7:tagg env.P 26=(some false):=by kernel_rfl
@[simp] theorem KW:eJ env.P 26=(some 62):=by kernel_rfl
@[simp] theorem VQ:tarr env.P 26=none:=by kernel_rfl
@[simp] theorem UW:isStr env.P 26=false:=by kernel_rfl
@[simp] theorem X5:apT env.P 26=true:=by kernel_rfl
@[simp] theorem Xh:elOk env.P 26=true:=by kernel_rfl
@[simp] theorem XX:elZ env.P 26=24:=by kernel_rfl
@[simp] theorem Xm:elBy env.P 26=160:=by kernel_rfl
@[simp] theorem S1:iT env.P 26=(.agg [(a8 0),(.v (.int .i64 0)),(a8 0),(a8 0),(a32 0),(a8 0),(.v (.int .i64 0)),(a8 0),(a32 0),(a8 0),(.v (.int .i64 0)),(.v (.int .i64 0)),(a8 0),(a32 0),(a8 0),(.v (.int .i64 0)),(a8 0),(a32 0),(.v (.slice none 0 0)),(.v (.int .i64 0)),(.v (.int .i64 0)),(a8 0),(a32 0),(.v (.bool false))]):=by kernel_rfl
@[simp] theorem TJ:aP env.P 27=(some 1):=by kernel_rfl
@[simp] theorem V6:tagg env.P 27=(some false):=by kernel_rfl
@[simp] theorem UR:pd env.P 27=(some 1):=by kernel_rfl
@[simp] theorem Qv:intKind env.P 27=(some .u32):=by kernel_rfl
@[simp] theorem VA:(env.P.underlying 27).isNone=false:=by kernel_rfl
@[simp] theorem TI:aP env.P 29=(some 2):=by kernel_rfl
@[simp] theorem V5:tagg env.P 29=(some true):=by kernel_rfl
@[simp] theorem VP:tarr env.P 29=none:=by kernel_rfl
@[simp] theorem Tw:fC env.P 29=(some (.agg [(a8 0),(a32 0)])):=by kernel_rfl
@[simp] theorem UQ:pd env.P 29=none:=by kernel_rfl
@[simp] theorem W6:eqTy env.P 29=true:=by kernel_rfl
@[simp] theorem Fk:fM env.P 29=(some [5,27]):=by kernel_rfl
@[simp] theorem Si:e9 env.P 29=(some [(0,1),(1,1)]):=by kernel_rfl
@[simp] theorem PE:ax env.P 29 0=(some (0,1)):=by kernel_rfl
@[simp] theorem Pt:ax env.P 29 1=(some (1,1)):=by kernel_rfl
@[simp] theorem TH:aP env.P 31=(some 3):=by kernel_rfl
@[simp] theorem V4:tagg env.P 31=(some true):=by kernel_rfl
@[simp] theorem VO:tarr env.P 31=none:=by kernel_rfl
@[simp] theorem Tv:fC env.P 31=(some (.agg [(a8 0),(a32 0),(a8 0)])):=by kernel_rfl
@[simp] theorem UP:pd env.P 31=none:=by kernel_rfl
@[simp] theorem W5:eqTy env.P 31=true:=by kernel_rfl
@[simp] theorem Fj:fM env.P 31=(some [29,5]):=by kernel_rfl
@[simp] theorem Sh:e9 env.P 31=(some [(0,2),(2,1)]):=by kernel_rfl
@[simp] theorem PD:ax env.P 31 0=(some (0,2)):=by kernel_rfl
@[simp] theorem Ps:ax env.P 31 1=(some (2,1)):=by kernel_rfl
@[simp] theorem TG:aP env.P 33=(some 4):=by kernel_rfl
@[simp] theorem V3:tagg env.P 33=(some true):=by kernel_rfl
@[simp] theorem VN:tarr env.P 33=none:=by kernel_rfl
@[simp] theorem Tu:fC env.P 33=(some (.agg [(a8 0),(a32 0),(a8 0),(.v (.int .i64 0))])):=by kernel_rfl
@[simp] theorem UO:pd env.P 33=none:=by kernel_rfl
@[simp] theorem W4:eqTy env.P 33=true:=by kernel_rfl
@[simp] theorem Fi:fM env.P 33=(some [31,3]):=by kernel_rfl
@[simp] theorem Sg:e9 env.P 33=(some [(0,3),(3,1)]):=by kernel_rfl
@[simp] theorem PC:ax env.P 33 0=(some (0,3)):=by kernel_rfl
@[simp] theorem Pr:ax env.P 33 1=(some (3,1)):=by kernel_rfl
@[simp] theorem TF:aP env.P 35=(some 5):=by kernel_rfl
@[simp] theorem V2:tagg env.P 35=(some true):=by kernel_rfl
@[simp] theorem UN:pd env.P 35=none:=by kernel_rfl
@[simp] theorem W3:eqTy env.P 35=true:=by kernel_rfl
@[simp] theorem Fh:fM env.P 35=(some [33,3]):=by kernel_rfl
@[simp] theorem PB:ax env.P 35 0=(some (0,4)):=by kernel_rfl
@[simp] theorem Pq:ax env.P 35 1=(some (4,1)):=by kernel_rfl
@[simp] theorem TE:aP env.P 36=(some 1):=by kernel_rfl
@[simp] theorem V1:tagg env.P 36=(some false):=by kernel_rfl
@[simp] theorem KV:eJ env.P 36=(some 21):=by kernel_rfl
@[simp] theorem VM:tarr env.P 36=none:=by kernel_rfl
@[simp] theorem UU:isStr env.P 36=false:=by kernel_rfl
@[simp] theorem X4:apT env.P 36=true:=by kernel_rfl
@[simp] theorem Xg:elOk env.P 36=true:=by kernel_rfl
@[simp] theorem XW:elZ env.P 36=1:=by kernel_rfl
@[simp] theorem Xl:elBy env.P 36=4:=by kernel_rfl
@[simp] theorem S0:iT env.P 36=(.v (.int .i32 0)):=by kernel_rfl
@[simp] theorem TD:aP env.P 38=(some 17):=by kernel_rfl
@[simp] theorem V0:tagg env.P 38=(some true):=by kernel_rfl
@[simp] theorem VL:tarr env.P 38=none:=by kernel_rfl
@[simp] theorem Tt:fC env.P 38=(some (.agg [(a8 0),(a8 0),(a32 0),(a8 0),(.v (.int .i64 0)),(a8 0),(a32 0),(a8 0),(.v (.int .i64 0)),(.v (.int .i64 0)),(a8 0),(a32 0),(a8 0),(.v (.int .i64 0)),(a8 0),(a32 0),(.v (.slice none 0 0))])):=by kernel_rfl
@[simp] theorem Fg:fM env.P 38=(some [5,31,3,35,33,29,36]):=by kernel_rfl
@[simp] theorem Sf:e9 env.P 38=(some [(0,1),(1,3),(4,1),(5,5),(10,4),(14,2),(16,1)]):=by kernel_rfl
@[simp] theorem PA:ax env.P 38 0=(some (0,1)):=by kernel_rfl
@[simp] theorem Pp:ax env.P 38 1=(some (1,3)):=by kernel_rfl
@[simp] theorem Ph:ax env.P 38 2=(some (4,1)):=by kernel_rfl
@[simp] theorem Pd:ax env.P 38 3=(some (5,5)):=by kernel_rfl
@[simp] theorem Pa:ax env.P 38 4=(some (10,4)):=by kernel_rfl
@[simp] theorem O8:ax env.P 38 5=(some (14,2)):=by kernel_rfl
@[simp] theorem O7:ax env.P 38 6=(some (16,1)):=by kernel_rfl
@[simp] theorem TC:aP env.P 41=(some 1):=by kernel_rfl
@[simp] theorem VZ:tagg env.P 41=(some false):=by kernel_rfl
@[simp] theorem TO:eJ env.P 41=(some 38):=by kernel_rfl
@[simp] theorem VK:tarr env.P 41=none:=by kernel_rfl
@[simp] theorem UT:isStr env.P 41=false:=by kernel_rfl
@[simp] theorem X3:apT env.P 41=true:=by kernel_rfl
@[simp] theorem Xf:elOk env.P 41=true:=by kernel_rfl
@[simp] theorem XV:elZ env.P 41=17:=by kernel_rfl
@[simp] theorem Xk:elBy env.P 41=112:=by kernel_rfl
@[simp] theorem SZ:iT env.P 41=(.agg [(a8 0),(a8 0),(a32 0),(a8 0),(.v (.int .i64 0)),(a8 0),(a32 0),(a8 0),(.v (.int .i64 0)),(.v (.int .i64 0)),(a8 0),(a32 0),(a8 0),(.v (.int .i64 0)),(a8 0),(a32 0),(.v (.slice none 0 0))]):=by kernel_rfl
@[simp] theorem TB:aP env.P 42=(some 1):=by kernel_rfl
@[simp] theorem VY:tagg env.P 42=(some false):=by kernel_rfl
@[simp] theorem Qu:intKind env.P 42=(some .i64):=by kernel_rfl
@[simp] theorem Vz:(env.P.underlying 42).isNone=false:=by kernel_rfl
@[simp] theorem KT:aP env.P 58=(some 3):=by kernel_rfl
@[simp] theorem N9:tagg env.P 58=(some true):=by kernel_rfl
@[simp] theorem Ts:fC env.P 58=(some (.agg [(a8 0),(a32 0),(.v (.bool false))])):=by kernel_rfl
@[simp] theorem UM:pd env.P 58=none:=by kernel_rfl
@[simp] theorem zQ:fM env.P 58=(some [29,4]):=by kernel_rfl
@[simp] theorem Pz:ax env.P 58 0=(some (0,2)):=by kernel_rfl
@[simp] theorem Po:ax env.P 58 1=(some (2,1)):=by kernel_rfl
@[simp] theorem TA:aP env.P 60=(some 4):=by kernel_rfl
@[simp] theorem VX:tagg env.P 60=(some true):=by kernel_rfl
@[simp] theorem UL:pd env.P 60=none:=by kernel_rfl
@[simp] theorem W2:eqTy env.P 60=true:=by kernel_rfl
@[simp] theorem Ff:fM env.P 60=(some [3,58]):=by kernel_rfl
@[simp] theorem Py:ax env.P 60 0=(some (0,1)):=by kernel_rfl
@[simp] theorem Pn:ax env.P 60 1=(some (1,3)):=by kernel_rfl
@[simp] theorem KS:aP env.P 62=(some 24):=by kernel_rfl
@[simp] theorem N8:tagg env.P 62=(some true):=by kernel_rfl
@[simp] theorem VJ:tarr env.P 62=none:=by kernel_rfl
@[simp] theorem Tr:fC env.P 62=(some (.agg [(a8 0),(.v (.int .i64 0)),(a8 0),(a8 0),(a32 0),(a8 0),(.v (.int .i64 0)),(a8 0),(a32 0),(a8 0),(.v (.int .i64 0)),(.v (.int .i64 0)),(a8 0),(a32 0),(a8 0),(.v (.int .i64 0)),(a8 0),(a32 0),(.v (.slice none 0 0)),(.v (.int .i64 0)),(.v (.int .i64 0)),(a8 0),(a32 0),(.v (.bool false))])):=by kernel_rfl
@[simp] theorem Fe:fM env.P 62=(some [5,3,38,42,60]):=by kernel_rfl
@[simp] theorem Se:e9 env.P 62=(some [(0,1),(1,1),(2,17),(19,1),(20,4)]):=by kernel_rfl
@[simp] theorem Px:ax env.P 62 0=(some (0,1)):=by kernel_rfl
@[simp] theorem Pm:ax env.P 62 1=(some (1,1)):=by kernel_rfl
@[simp] theorem Pg:ax env.P 62 2=(some (2,17)):=by kernel_rfl
@[simp] theorem Pc:ax env.P 62 3=(some (19,1)):=by kernel_rfl
@[simp] theorem O9:ax env.P 62 4=(some (20,4)):=by kernel_rfl
@[simp] theorem Tz:aP env.P 73=(some 3):=by kernel_rfl
@[simp] theorem VW:tagg env.P 73=(some true):=by kernel_rfl
@[simp] theorem VI:tarr env.P 73=none:=by kernel_rfl
@[simp] theorem Tq:fC env.P 73=(some (.agg [(.v (.bool false)),(.v (.int .i64 0)),(.v (.int .i64 0))])):=by kernel_rfl
@[simp] theorem Sd:e9 env.P 73=(some [(0,1),(1,1),(2,1)]):=by kernel_rfl
@[simp] theorem N6:m8 env.P 73 0=(some (0,4)):=by kernel_rfl
@[simp] theorem Pw:ax env.P 73 0=(some (0,1)):=by kernel_rfl
@[simp] theorem Pl:ax env.P 73 1=(some (1,1)):=by kernel_rfl
@[simp] theorem Pf:ax env.P 73 2=(some (2,1)):=by kernel_rfl
@[simp] theorem KR:aP env.P 81=(some 5):=by kernel_rfl
@[simp] theorem N7:tagg env.P 81=(some true):=by kernel_rfl
@[simp] theorem VH:tarr env.P 81=none:=by kernel_rfl
@[simp] theorem Tp:fC env.P 81=(some (.agg [(a8 0),(a32 0),(.v (.int .i64 0)),(.v (.int .i64 0)),(.v (.int .i64 0))])):=by kernel_rfl
@[simp] theorem Fc:fM env.P 81=(some [29,3,3,3]):=by kernel_rfl
@[simp] theorem Sc:e9 env.P 81=(some [(0,2),(2,1),(3,1),(4,1)]):=by kernel_rfl
@[simp] theorem Pv:ax env.P 81 0=(some (0,2)):=by kernel_rfl
@[simp] theorem Pk:ax env.P 81 1=(some (2,1)):=by kernel_rfl
@[simp] theorem Pe:ax env.P 81 2=(some (3,1)):=by kernel_rfl
@[simp] theorem N5:m8 env.P 81 3=(some (4,3)):=by kernel_rfl
@[simp] theorem Pb:ax env.P 81 3=(some (4,1)):=by kernel_rfl
@[simp] theorem Ty:aP env.P 90=(some 1):=by kernel_rfl
@[simp] theorem VV:tagg env.P 90=(some false):=by kernel_rfl
@[simp] theorem Rw:aP env.P 107=(some 26):=by kernel_rfl
@[simp] theorem Uu:tagg env.P 107=(some true):=by kernel_rfl
@[simp] theorem Ue:tarr env.P 107=none:=by kernel_rfl
@[simp] theorem Rb:fC env.P 107=(some (.agg [(.v (.int .i64 0)),(.v (.bool false)),(a8 0),(.v (.int .i64 0)),(a8 0),(a8 0),(a32 0),(a8 0),(.v (.int .i64 0)),(a8 0),(a32 0),(a8 0),(.v (.int .i64 0)),(.v (.int .i64 0)),(a8 0),(a32 0),(a8 0),(.v (.int .i64 0)),(a8 0),(a32 0),(.v (.slice none 0 0)),(.v (.int .i64 0)),(.v (.int .i64 0)),(a8 0),(a32 0),(.v (.bool false))])):=by kernel_rfl
@[simp] theorem Qm:e9 env.P 107=(some [(0,1),(1,1),(2,24)]):=by kernel_rfl
@[simp] theorem NM:ax env.P 107 0=(some (0,1)):=by kernel_rfl
@[simp] theorem NF:ax env.P 107 1=(some (1,1)):=by kernel_rfl
@[simp] theorem Ny:ax env.P 107 2=(some (2,24)):=by kernel_rfl
@[simp] theorem Rv:aP env.P 126=(some 1):=by kernel_rfl
@[simp] theorem Ut:tagg env.P 126=(some false):=by kernel_rfl
@[simp] theorem Ru:aP env.P 127=(some 1):=by kernel_rfl
@[simp] theorem Us:tagg env.P 127=(some false):=by kernel_rfl
@[simp] theorem Rt:aP env.P 129=(some 10):=by kernel_rfl
@[simp] theorem Ud:tarr env.P 129=none:=by kernel_rfl
@[simp] theorem Ra:fC env.P 129=(some (.agg [(.v (.slice none 0 0)),(.v (.slice none 0 0)),(.v (.int .i64 0)),(.v (.slice none 0 0)),(.v (.slice none 0 0)),(.v (.int .i64 0)),(.v (.slice none 0 0)),(.v (.map none)),(.v (.map none)),(.v (.slice none 0 0))])):=by kernel_rfl
@[simp] theorem Ql:e9 env.P 129=(some [(0,3),(3,3),(6,1),(7,1),(8,1),(9,1)]):=by kernel_rfl
@[simp] theorem NL:ax env.P 129 0=(some (0,3)):=by kernel_rfl
@[simp] theorem ND:ax env.P 129 1=(some (3,3)):=by kernel_rfl
@[simp] theorem Nx:ax env.P 129 2=(some (6,1)):=by kernel_rfl
@[simp] theorem Nu:ax env.P 129 3=(some (7,1)):=by kernel_rfl
@[simp] theorem Ns:ax env.P 129 4=(some (8,1)):=by kernel_rfl
@[simp] theorem Nr:ax env.P 129 5=(some (9,1)):=by kernel_rfl
@[simp] theorem Rs:aP env.P 137=(some 1):=by kernel_rfl
@[simp] theorem Ur:tagg env.P 137=(some false):=by kernel_rfl
@[simp] theorem Rr:aP env.P 147=(some 1):=by kernel_rfl
@[simp] theorem Uq:tagg env.P 147=(some false):=by kernel_rfl
@[simp] theorem Rq:aP env.P 148=(some 1):=by kernel_rfl
@[simp] theorem Up:tagg env.P 148=(some false):=by kernel_rfl
@[simp] theorem MM:m8 env.P 150 0=(some (0,147)):=by kernel_rfl
@[simp] theorem MK:m8 env.P 150 1=(some (1,148)):=by kernel_rfl
@[simp] theorem Rp:aP env.P 170=(some 1):=by kernel_rfl
@[simp] theorem Uo:tagg env.P 170=(some false):=by kernel_rfl
@[simp] theorem RC:eJ env.P 170=(some 5):=by kernel_rfl
@[simp] theorem Uc:tarr env.P 170=none:=by kernel_rfl
@[simp] theorem SG:isStr env.P 170=false:=by kernel_rfl
@[simp] theorem Xy:apT env.P 170=true:=by kernel_rfl
@[simp] theorem Vf:elOk env.P 170=true:=by kernel_rfl
@[simp] theorem Xe:elZ env.P 170=1:=by kernel_rfl
@[simp] theorem Vi:elBy env.P 170=1:=by kernel_rfl
@[simp] theorem QN:iT env.P 170=(a8 0):=by kernel_rfl
@[simp] theorem Ro:aP env.P 173=(some 24):=by kernel_rfl
@[simp] theorem Ub:tarr env.P 173=none:=by kernel_rfl
@[simp] theorem Q9:fC env.P 173=(some (.agg [(a8 0),(.v (.int .i64 0)),(a8 0),(a8 0),(a32 0),(a8 0),(.v (.int .i64 0)),(a8 0),(a32 0),(a8 0),(.v (.int .i64 0)),(.v (.int .i64 0)),(a8 0),(a32 0),(a8 0),(.v (.int .i64 0)),(a8 0),(a32 0),(.v (.slice none 0 0)),(.v (.int .i64 0)),(.v (.int .i64 0)),(a8 0),(a32 0),(.v (.bool false))])):=by kernel_rfl
@[simp] theorem Qk:e9 env.P 173=(some [(0,24)]):=by kernel_rfl
@[simp] theorem NK:ax env.P 173 0=(some (0,24)):=by kernel_rfl
@[simp] theorem Rm:aP env.P 180=(some 1):=by kernel_rfl
@[simp] theorem Un:tagg env.P 180=(some false):=by kernel_rfl
@[simp] theorem Rl:aP env.P 185=(some 16):=by kernel_rfl
@[simp] theorem Um:tagg env.P 185=(some true):=by kernel_rfl
@[simp] theorem Ua:tarr env.P 185=none:=by kernel_rfl
@[simp] theorem Q8:fC env.P 185=(some (.agg [(.v (.bool false)),(.v (.int .i64 0)),(.v (.int .i64 0)),(.v (.slice none 0 0)),(.v (.slice none 0 0)),(.v (.int .i64 0)),(a8 0),(a32 0),(.v (.int .i64 0)),(.v (.int .i64 0)),(.v (.int .i64 0)),(a8 0),(a32 0),(.v (.int .i64 0)),(.v (.int .i64 0)),(.v (.int .i64 0))])):=by kernel_rfl
@[simp] theorem Qj:e9 env.P 185=(some [(0,3),(3,3),(6,5),(11,5)]):=by kernel_rfl
@[simp] theorem NJ:ax env.P 185 0=(some (0,3)):=by kernel_rfl
@[simp] theorem NC:ax env.P 185 1=(some (3,3)):=by kernel_rfl
@[simp] theorem Nw:ax env.P 185 2=(some (6,5)):=by kernel_rfl
@[simp] theorem Nt:ax env.P 185 3=(some (11,5)):=by kernel_rfl
@[simp] theorem Rk:aP env.P 190=(some 1):=by kernel_rfl
@[simp] theorem Ul:tagg env.P 190=(some false):=by kernel_rfl
@[simp] theorem Rj:aP env.P 193=(some 2):=by kernel_rfl
@[simp] theorem Uk:tagg env.P 193=(some true):=by kernel_rfl
@[simp] theorem TZ:tarr env.P 193=none:=by kernel_rfl
@[simp] theorem Q7:fC env.P 193=(some (.agg [(.v .nilFunc),(.v .nilFunc)])):=by kernel_rfl
@[simp] theorem Qi:e9 env.P 193=(some [(0,1),(1,1)]):=by kernel_rfl
@[simp] theorem NI:ax env.P 193 0=(some (0,1)):=by kernel_rfl
@[simp] theorem NB:ax env.P 193 1=(some (1,1)):=by kernel_rfl
@[simp] theorem Ri:aP env.P 203=(some 2):=by kernel_rfl
@[simp] theorem Uj:tagg env.P 203=(some true):=by kernel_rfl
@[simp] theorem ML:m8 env.P 203 0=(some (0,137)):=by kernel_rfl
@[simp] theorem TY:tarr env.P 204=(some (4,203)):=by kernel_rfl
@[simp] theorem Rh:aP env.P 230=(some 1):=by kernel_rfl
@[simp] theorem Ui:tagg env.P 230=(some false):=by kernel_rfl
@[simp] theorem RB:eJ env.P 235=(some 193):=by kernel_rfl
@[simp] theorem TX:tarr env.P 235=none:=by kernel_rfl
@[simp] theorem SF:isStr env.P 235=false:=by kernel_rfl
@[simp] theorem Ve:elOk env.P 235=true:=by kernel_rfl
@[simp] theorem Xd:elZ env.P 235=2:=by kernel_rfl
@[simp] theorem QM:iT env.P 235=(.agg [(.v .nilFunc),(.v .nilFunc)]):=by kernel_rfl
@[simp] theorem RA:eJ env.P 244=(some 33):=by kernel_rfl
@[simp] theorem TW:tarr env.P 244=none:=by kernel_rfl
@[simp] theorem SE:isStr env.P 244=false:=by kernel_rfl
@[simp] theorem Xx:apT env.P 244=true:=by kernel_rfl
@[simp] theorem Vd:elOk env.P 244=true:=by kernel_rfl
@[simp] theorem Xc:elZ env.P 244=4:=by kernel_rfl
@[simp] theorem Vh:elBy env.P 244=24:=by kernel_rfl
@[simp] theorem QL:iT env.P 244=(.agg [(a8 0),(a32 0),(a8 0),(.v (.int .i64 0))]):=by kernel_rfl
@[simp] theorem Rg:aP env.P 249=(some 10):=by kernel_rfl
@[simp] theorem Uh:tagg env.P 249=(some true):=by kernel_rfl
@[simp] theorem TV:tarr env.P 249=none:=by kernel_rfl
@[simp] theorem Q6:fC env.P 249=(some (.agg [(a8 0),(a32 0),(a8 0),(.v (.int .i64 0)),(.v (.int .i64 0)),(a8 0),(a32 0),(a8 0),(.v (.int .i64 0)),(.v (.slice none 0 0))])):=by kernel_rfl
@[simp] theorem Qh:e9 env.P 249=(some [(0,5),(5,4),(9,1)]):=by kernel_rfl
@[simp] theorem NH:ax env.P 249 0=(some (0,5)):=by kernel_rfl
@[simp] theorem NA:ax env.P 249 1=(some (5,4)):=by kernel_rfl
@[simp] theorem Nv:ax env.P 249 2=(some (9,1)):=by kernel_rfl
@[simp] theorem Rz:eJ env.P 262=(some 4):=by kernel_rfl
@[simp] theorem TU:tarr env.P 262=none:=by kernel_rfl
@[simp] theorem SD:isStr env.P 262=false:=by kernel_rfl
@[simp] theorem Vc:elOk env.P 262=true:=by kernel_rfl
@[simp] theorem Xb:elZ env.P 262=1:=by kernel_rfl
@[simp] theorem QK:iT env.P 262=(.v (.bool false)):=by kernel_rfl
@[simp] theorem Rf:aP env.P 264=(some 1):=by kernel_rfl
@[simp] theorem Ug:tagg env.P 264=(some false):=by kernel_rfl
@[simp] theorem Re:aP env.P 266=(some 2):=by kernel_rfl
@[simp] theorem TT:tarr env.P 266=none:=by kernel_rfl
@[simp] theorem Q5:fC env.P 266=(some (.agg [(.v (.slice none 0 0)),(.v (.map none))])):=by kernel_rfl
@[simp] theorem Qg:e9 env.P 266=(some [(0,1),(1,1)]):=by kernel_rfl
@[simp] theorem NG:ax env.P 266 0=(some (0,1)):=by kernel_rfl
@[simp] theorem Nz:ax env.P 266 1=(some (1,1)):=by kernel_rfl
@[simp] theorem Rd:aP env.P 277=(some 1):=by kernel_rfl
@[simp] theorem Uf:tagg env.P 277=(some false):=by kernel_rfl
@[simp] theorem Ry:eJ env.P 277=(some 29):=by kernel_rfl
@[simp] theorem TQ:tarr env.P 277=none:=by kernel_rfl
@[simp] theorem SC:isStr env.P 277=false:=by kernel_rfl
@[simp] theorem Q4:fC env.P 277=(some (.v (.slice none 0 0))):=by kernel_rfl
@[simp] theorem Xw:apT env.P 277=true:=by kernel_rfl
@[simp] theorem Vb:elOk env.P 277=true:=by kernel_rfl
@[simp] theorem Xa:elZ env.P 277=2:=by kernel_rfl
@[simp] theorem Vg:elBy env.P 277=8:=by kernel_rfl
@[simp] theorem QJ:iT env.P 277=(.agg [(a8 0),(a32 0)]):=by kernel_rfl
@[simp] theorem Rx:eJ env.P 279=(some 170):=by kernel_rfl
@[simp] theorem TP:tarr env.P 279=none:=by kernel_rfl
@[simp] theorem SB:isStr env.P 279=false:=by kernel_rfl
@[simp] theorem Va:elOk env.P 279=true:=by kernel_rfl
@[simp] theorem W9:elZ env.P 279=1:=by kernel_rfl
@[simp] theorem QI:iT env.P 279=(.v (.slice none 0 0)):=by kernel_rfl
end Go.Proofs.YtmkmimgokagimaaGreat
