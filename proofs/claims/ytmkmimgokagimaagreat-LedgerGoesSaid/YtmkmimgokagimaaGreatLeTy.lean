/-
  The facts on the program's types, computed. No statement of a seat is proved here.
-/
import Derived.Test.YtmkmimgokagimaaGreatRows
import Derived.Test.YtmkmimgokagimaaGreatAbsRules
set_option linter.unusedVariables false
set_option maxRecDepth 1000000
namespace Go.Proofs.YtmkmimgokagimaaGreat
open Go.Ab
def fns:List FuncId:=[5,13,19,22,23,29,31,34,42,43,44,47,62,63,69,70,72,75,76,77,80,81,82,83,84,91,95,97,98,100,101,102,103,104,105,106,108,121,133,135,136,137,145,146,147,148,149,150,151,152,153,159,160,161,162,163,164,165,166,167,168,169,170,171,172,173,174,176,182,183,184,185,186,187,188,189,190,191,192,193,202,203,205,206,207,208,209,210,211,212,213,214,215,216,217,218,219,220,225,226,227,228,229,230,231,232,233,234,235,239,240,241,242,243,244,246,247,248,249,250,251]
def keep:List FuncId:=[84,160,162,173,205,206,209,225]
def thr:List FuncId:=[64,65,69,71,72,75,77,81,83,87,88,90,92,95,97,98,100,145,146,147,148,149,150,151,153,172,193,218,219,220,230,232,233,234,241,242,250]
def memo:List (FuncId × List AV × AV):=[(36,[],.v (.bool true))]
noncomputable def env:Env:=xG Tryz.prog fns keep thr (CJ [(19,13,18),(16,1,77777),(55,1,88888),(35,147,88889),(55,72,88889),(10,48,88889),(10,50,88889),(7,5,66666),(20,160,88889)]) (rW [(15,12,0,[(20,23)]),(52,10,0,[(56,58)]),(25,34,4,[(44,43)]),(6,21,0,[(16,4),(20,4),(17,4)]),(58,23,0,[(71,61),(4,61),(5,61),(5,68)]),(7,6,0,[(3,5)])]) (JD [(19,13,18),(16,1,77777),(55,1,88888),(35,147,88889),(55,72,88889),(10,48,88889),(10,50,88889),(7,5,66666),(20,160,88889)]) memo (fun _=>false) (fun _=>none) (fun _ _ _=>none) Di
@[simp] noncomputable def Za(b:Bool)(h:Heap)(n:Nat)(n2:Nat)(a:List AV):=aG env b (limf env) (limt env 0) h (Ref.mk 0 n (Heap.gen h 0 n) 0) (some (AV.fn (Fn.func n2) [] [])) a
@[simp] noncomputable def Zb(h:Heap)(n:Nat)(v:AV):=ai env.P (Heap.get h) n (some v)
@[simp] noncomputable def Zc(h:Heap)(n:Nat)(n2:Nat)(v:AV):=nRes h (Ref.mk 0 n (Heap.gen h 0 n) 0) (qBox env.P (Ref.mk 0 n (Heap.gen h 0 n) 0) n2 (some v))
@[simp] noncomputable def Zd(n:Nat)(v:AV)(n2:Nat):=aa env.P n (some v) n2
@[simp] noncomputable def Ze(n:Nat)(n2:Nat)(i:Int)(v:AV):=qBin env.P .add n (Operand.tmp n2) (Operand.const (Value.int IntKind.i64 i)) (some v) (some (AV.v (Value.int IntKind.i64 i)))
@[simp] noncomputable def Zf(n:Nat)(n2:Nat)(i:Int)(v:AV):=qBin env.P .neq n (Operand.tmp n2) (Operand.const (Value.int IntKind.i64 i)) (some v) (some (AV.v (Value.int IntKind.i64 i)))
@[simp] noncomputable def Zg(v:AV)(v2:AV):=bc (some v) (some v2) (some (AV.v (Value.bool false)))
@[simp] noncomputable def Zh(h:Heap)(n:Nat)(n2:Nat)(v:AV):=az env.P false (Heap.get h) (Ref.mk 0 n (Heap.gen h 0 n) 0) .len #[n2] [v]
@[simp] noncomputable def Zi(h:Heap)(n:Nat)(n2:Nat)(n3:Nat)(v:AV):=nRes h (Ref.mk (n+1) n2 (Heap.gen h (n+1) n2) 0) (qBox env.P (Ref.mk (n+1) n2 (Heap.gen h (n+1) n2) 0) n3 (some v))
@[simp] noncomputable def Zj(n:Nat)(n2:Nat)(i:Int)(v:AV):=qBin env.P .eql n (Operand.tmp n2) (Operand.const (Value.int IntKind.i64 i)) (some v) (some (AV.v (Value.int IntKind.i64 i)))
@[simp] noncomputable def Zk(h:Heap)(n:Nat)(n2:Nat):=nRes h (Ref.mk 0 n (Heap.gen h 0 n) 0) (cF env.P (Ref.mk 0 n (Heap.gen h 0 n) 0) n2)
@[simp] noncomputable def Zl(n:Nat)(n2:Nat)(n3:Nat)(v:AV)(v2:AV):=qBin env.P .eql n (Operand.tmp n2) (Operand.tmp n3) (some v) (some v2)
@[simp] noncomputable def Zm(v:AV)(v2:AV):=bc (some v) (some (AV.v (Value.bool true))) (some v2)
@[simp] noncomputable def Zn(n:Nat)(n2:Nat)(n3:Nat)(v:AV)(v2:AV):=qBin env.P .lss n (Operand.tmp n2) (Operand.tmp n3) (some v) (some v2)
@[simp] noncomputable def Zo(n:Nat)(n2:Nat)(i:Int)(v:AV):=qBin env.P .geq n (Operand.tmp n2) (Operand.const (Value.int IntKind.i64 i)) (some v) (some (AV.v (Value.int IntKind.i64 i)))
@[simp] noncomputable def Zp(h:Heap)(n:Nat)(v:AV)(v2:AV):=aV env.P h n (some v) (some v2)
@[simp] noncomputable def Zq(n:Nat)(n2:Nat)(i:Int)(v:AV):=qBin env.P .gtr n (Operand.tmp n2) (Operand.const (Value.int IntKind.i64 i)) (some v) (some (AV.v (Value.int IntKind.i64 i)))
@[simp] noncomputable def Zr(h:Heap)(n:Nat)(n2:Nat)(n3:Nat):=nRes h (Ref.mk (n+1) n2 (Heap.gen h (n+1) n2) 0) (cF env.P (Ref.mk (n+1) n2 (Heap.gen h (n+1) n2) 0) n3)
@[simp] noncomputable def Zs(n:Nat)(n2:Nat)(i:Int)(v:AV):=qBin env.P .lss n (Operand.tmp n2) (Operand.const (Value.int IntKind.i64 i)) (some v) (some (AV.v (Value.int IntKind.i64 i)))
@[simp] noncomputable def Zt(h:Heap)(n:Nat)(n2:Nat)(n3:Nat)(v:AV)(v2:AV):=cO env.P true h (Ref.mk 0 n (Heap.gen h 0 n) 0) (some n2) (some n3) v v2
@[simp] noncomputable def Zu(h:Heap)(n:Nat)(v:AV)(v2:AV):=aD env.P (Heap.get h) n (some v) (some v2)
@[simp] noncomputable def Zv(h:Heap)(n:Nat)(n2:Nat)(n3:Nat)(v:AV):=cz env.P (Heap.get h) (Ref.mk 0 n (Heap.gen h 0 n) 0) n2 n3 (some v)
@[simp] noncomputable def Zw(n:Nat)(n2:Nat)(i:Int)(v:AV):=qBin env.P .sub n (Operand.tmp n2) (Operand.const (Value.int IntKind.i64 i)) (some v) (some (AV.v (Value.int IntKind.i64 i)))
@[simp] noncomputable def Zx(n:Nat)(n2:Nat)(i:Int)(v:AV):=qBin env.P .leq n (Operand.tmp n2) (Operand.const (Value.int IntKind.i64 i)) (some v) (some (AV.v (Value.int IntKind.i64 i)))
@[simp] noncomputable def Zy(h:Heap)(n:Nat)(n2:Nat)(n3:Nat)(v:AV):=az env.P false (Heap.get h) (Ref.mk (n+1) n2 (Heap.gen h (n+1) n2) 0) .len #[n3] [v]
@[simp] noncomputable def Zz(n:Nat)(n2:Nat)(n3:Nat)(v:AV)(v2:AV):=qBin env.P .neq n (Operand.tmp n2) (Operand.tmp n3) (some v) (some v2)
@[simp] noncomputable def ZA(h:Heap)(n:Nat)(n2:Nat)(n3:Nat)(n4:Nat)(v:AV):=gZ env.P false true h (Ref.mk 0 n (Heap.gen h 0 n) 0) n2 n3 (some [(n4,v)])
@[simp] noncomputable def ZB(n:Nat)(n2:Nat)(n3:Nat)(v:AV)(v2:AV):=qBin env.P .add n (Operand.tmp n2) (Operand.tmp n3) (some v) (some v2)
@[simp] noncomputable def ZC(v:AV):=qUn env.P .not (some v)
@[simp] noncomputable def ZD(h:Heap)(n:Nat)(v:AV)(v2:AV):=aG env true (limf env) (limt env 0) h (Ref.mk 0 n (Heap.gen h 0 n) 0) (some v) [v2]
@[simp] noncomputable def ZE(v:AV)(n:Nat):=ax (some v) n
@[simp] noncomputable def ZF(v:AV):=qVal (some v)
@[simp] noncomputable def ZG(h:Heap)(n:Nat)(v:AV)(v2:AV):=cB env.P (Heap.get h) n (some v) (some v2) false
@[simp] noncomputable def ZH(h:Heap)(n:Nat)(v:AV)(v2:AV):=eQ env.P (Heap.get h) n (some v) (some none) (oi v2) (some none)
@[simp] noncomputable def ZI(n:Nat)(h:Heap)(n2:Nat)(v:AV)(v2:AV)(v3:AV):=aG env true (limf env) (limt env (n+1)) h (Ref.mk (n+1) n2 (Heap.gen h (n+1) n2) 0) (some v) [v2,v3]
@[simp] noncomputable def ZJ(n:Nat)(h:Heap)(n2:Nat)(v:AV)(v2:AV):=aG env true (limf env) (limt env (n+1)) h (Ref.mk (n+1) n2 (Heap.gen h (n+1) n2) 0) (some v) [v2]
@[simp] noncomputable def ZK(n:Nat)(n2:Nat)(v:AV):=qBin env.P .eql n (Operand.tmp n2) (.const (.int .u8 1)) (some v) (some (a8 1))
@[simp] noncomputable def ZL(n:Nat)(n2:Nat)(v:AV):=qBin env.P .eql n (Operand.tmp n2) (.const (.int .u8 3)) (some v) (some (a8 3))
@[simp] noncomputable def ZM(n:Nat)(h:Heap)(n2:Nat)(v:AV):=aG env true (limf env) (limt env (n+1)) h (Ref.mk (n+1) n2 (Heap.gen h (n+1) n2) 0) (some (.fn (.func 213) [] [])) [v]
@[simp] noncomputable def ZN(h:Heap)(n:Nat)(n2:Nat):=nRes h (Ref.mk (n+1) n2 (Heap.gen h (n+1) n2) 0) (some (.mp (Ref.mk (n+1) n2 (Heap.gen h (n+1) n2) 0),[aY []]))
@[simp] noncomputable def ZO(v:AV):=qNil (some v)
@[simp] noncomputable def ZP(n:Nat)(n2:Nat)(v:AV):=qBin env.P .eql n (Operand.tmp n2) (.const (.slice none 0 0)) (some v) (some (.v (.slice none 0 0)))
@[simp] noncomputable def ZQ(n:Nat)(n2:Nat)(n3:Nat)(v:AV)(v2:AV):=qBin env.P .sub n (Operand.tmp n2) (Operand.tmp n3) (some v) (some v2)
@[simp] noncomputable def ZR(h:Heap)(n:Nat)(n2:Nat)(n3:Nat)(n4:Nat)(v:AV)(v2:AV):=cO env.P true h (Ref.mk (n+1) n2 (Heap.gen h (n+1) n2) 0) (some n3) (some n4) v v2
@[simp] noncomputable def ZS(h:Heap)(n:Nat)(n2:Nat)(v:AV):=az env.P false (Heap.get h) (Ref.mk 0 n (Heap.gen h 0 n) 0) .cap #[n2] [v]
@[simp] noncomputable def ZT(n:Nat)(n2:Nat)(v:AV):=qBin env.P .shr n (Operand.tmp n2) (.const (.int .u64 8)) (some v) (some (.v (.int .u64 8)))
@[simp] noncomputable def ZU(n:Nat)(i:Int)(n2:Nat)(v:AV):=qBin env.P .mul n (Operand.const (Value.int IntKind.i64 i)) (Operand.tmp n2) (some (AV.v (Value.int IntKind.i64 i))) (some v)
@[simp] noncomputable def ZV(n:Nat)(h:Heap)(n2:Nat)(v:AV)(v2:AV):=aG env false (limf env) (limt env (n+1)) h (Ref.mk (n+1) n2 (Heap.gen h (n+1) n2) 0) (some (.fn (.func 152) [] [])) [v,v2]
@[simp] noncomputable def ZW(n:Nat)(h:Heap)(n2:Nat)(v:AV)(v2:AV):=aG env false (limf env) (limt env (n+1)) h (Ref.mk (n+1) n2 (Heap.gen h (n+1) n2) 0) (some (.fn (.func 44) [] [])) [v,v2]
@[simp] noncomputable def ZX(n:Nat)(h:Heap)(n2:Nat)(v:AV)(v2:AV):=aG env true (limf env) (limt env (n+1)) h (Ref.mk (n+1) n2 (Heap.gen h (n+1) n2) 0) (some (.fn (.func 100) [] [])) [v,v2]
@[simp] noncomputable def ZY(n:Nat)(h:Heap)(n2:Nat)(v:AV)(v2:AV):=aG env true (limf env) (limt env (n+1)) h (Ref.mk (n+1) n2 (Heap.gen h (n+1) n2) 0) (some (.fn (.func 146) [] [])) [v,v2]
@[simp] noncomputable def ZZ(n:Nat)(h:Heap)(n2:Nat)(v:AV)(v2:AV)(v3:AV):=aG env true (limf env) (limt env (n+1)) h (Ref.mk (n+1) n2 (Heap.gen h (n+1) n2) 0) (some (.fn (.func 230) [] [])) [v,v2,v3]
@[simp] noncomputable def Z0(n:Nat)(h:Heap)(n2:Nat)(v:AV)(v2:AV):=aG env true (limf env) (limt env (n+1)) h (Ref.mk (n+1) n2 (Heap.gen h (n+1) n2) 0) (some (.fn (.func 232) [] [])) [v,v2]
@[simp] noncomputable def Z1(n:Nat)(h:Heap)(n2:Nat)(v:AV)(v2:AV):=aG env true (limf env) (limt env (n+1)) h (Ref.mk (n+1) n2 (Heap.gen h (n+1) n2) 0) (some (.fn (.func 47) [] [])) [v,v2]
@[simp] noncomputable def Z2(n:Nat)(h:Heap)(n2:Nat)(v:AV)(v2:AV):=aG env true (limf env) (limt env (n+1)) h (Ref.mk (n+1) n2 (Heap.gen h (n+1) n2) 0) (some (.fn (.func 234) [] [])) [v,v2]
@[simp] noncomputable def Z3(n:Nat)(n2:Nat)(n3:Nat)(v:AV)(v2:AV):=qBin env.P .geq n (Operand.tmp n2) (Operand.tmp n3) (some v) (some v2)
@[simp] noncomputable def Z4(h:Heap)(n:Nat)(n2:Nat)(n3:Nat)(n4:Nat)(n5:Nat)(v:AV):=gZ env.P true false h (Ref.mk (n+1) n2 (Heap.gen h (n+1) n2) 0) n3 n4 (some [(n5,v)])
@[simp] noncomputable def Z5(n:Nat):=eB env.P n (some [])
@[simp] noncomputable def Z6(h:Heap)(n:Nat)(n2:Nat)(n3:Nat)(v:AV)(v2:AV):=az env.P true (Heap.get h) (Ref.mk 0 n (Heap.gen h 0 n) 0) .max #[n2,n3] [v,v2]
@[simp] noncomputable def Z7(h:Heap)(n:Nat)(n2:Nat)(n3:Nat)(n4:Nat)(v:AV):=gZ env.P true false h (Ref.mk 0 n (Heap.gen h 0 n) 0) n2 n3 (some [(n4,v)])
@[simp] noncomputable def Z8(h:Heap)(n:Nat)(n2:Nat)(n3:Nat):=gZ env.P false true h (Ref.mk 0 n (Heap.gen h 0 n) 0) n2 n3 (some [])
@[simp] noncomputable def Z9(n:Nat)(n2:Nat)(v:AV):=qBin env.P .shr n (Operand.tmp n2) (.const (.int .u64 16)) (some v) (some (.v (.int .u64 16)))
@[simp] noncomputable def Ya(h:Heap)(v:AV)(v2:AV)(v3:AV):=cq h (some v) (some v2) (some v3)
@[simp] noncomputable def Yb(h:Heap)(n:Nat)(v:AV)(v2:AV):=df env.P h n (some v) (some v2)
@[simp] noncomputable def Yc(h:Heap)(v:AV)(n:Nat):=dg env.P h v n
@[simp] noncomputable def Yd(n:Nat)(n2:Nat)(v:AV):=eB env.P n (some [(n2,v)])
theorem GH:GG env fns=true:=by kernel_rfl
@[simp] theorem Ty{f:FuncId}(h:thr.contains f=false):(env.mode f == 2)=false:=by
 show((if keep.contains f then (if thr.contains f then 3 else 1) else if thr.contains f then 2 else 0) == 2)=false
 rw[h]
 split<;>rfl
@[simp] theorem So{f:FuncId}(h:thr.contains f=false):(env.mode f == 3)=false:=by
 show((if keep.contains f then (if thr.contains f then 3 else 1) else if thr.contains f then 2 else 0) == 3)=false
 rw[h]
 split<;>rfl
theorem Ss{f:FuncId}(h:keep.contains f=false):tY (env.mode f)=false:=by
 show tY (if keep.contains f then (if thr.contains f then 3 else 1) else if thr.contains f then 2 else 0)=false
 rw[h]
 cases thr.contains f<;>rfl
@[simp] theorem LC{f:FuncId}(h:keep.contains f=false)(x:AV)(H:Heap)(y:AV):pe env f x H y↔view H.get depth x=some y:=GB (Ss h) x H y
theorem Sr{f:FuncId}(h:keep.contains f=true):tY (env.mode f)=true:=by
 show tY (if keep.contains f then (if thr.contains f then 3 else 1) else if thr.contains f then 2 else 0)=true
 rw[h]
 cases thr.contains f<;>rfl
@[simp] theorem SA{f:FuncId}(h:keep.contains f=true)(x:AV)(H:Heap)(y:AV):pe env f x H y↔(ar H.get depth x).Nodup∧db H.get depth x=some y:=B6 (Sr h) x H y
@[simp] theorem RB:aT env.P 3=(some 1):=by kernel_rfl
@[simp] theorem Tm:tagg env.P 3=(some false):=by kernel_rfl
@[simp] theorem Sy:n8 env.P 3=(some 1):=by kernel_rfl
@[simp] theorem Sz:isInt env.P 3=true:=by kernel_rfl
@[simp] theorem O0:intKind env.P 3=(some .i64):=by kernel_rfl
@[simp] theorem Ti:(env.P.underlying 3).isNone=false:=by kernel_rfl
@[simp] theorem RA:aT env.P 4=(some 1):=by kernel_rfl
@[simp] theorem Tl:tagg env.P 4=(some false):=by kernel_rfl
@[simp] theorem Sx:n8 env.P 4=(some 0):=by kernel_rfl
@[simp] theorem QV:isBool env.P 4=true:=by kernel_rfl
@[simp] theorem Rz:aT env.P 5=(some 1):=by kernel_rfl
@[simp] theorem Tk:tagg env.P 5=(some false):=by kernel_rfl
@[simp] theorem Sw:n8 env.P 5=(some 1):=by kernel_rfl
@[simp] theorem OZ:intKind env.P 5=(some .u8):=by kernel_rfl
@[simp] theorem Hy:aT env.P 21=(some 1):=by kernel_rfl
@[simp] theorem KL:tagg env.P 21=(some false):=by kernel_rfl
@[simp] theorem M4:intKind env.P 21=(some .i32):=by kernel_rfl
@[simp] theorem Rx:(env.P.underlying 21).isNone=false:=by kernel_rfl
@[simp] theorem P5:aT env.P 22=(some 1):=by kernel_rfl
@[simp] theorem R2:tagg env.P 22=(some false):=by kernel_rfl
@[simp] theorem HC:eG env.P 22=(some 58):=by kernel_rfl
@[simp] theorem RN:tarr env.P 22=none:=by kernel_rfl
@[simp] theorem QU:isStr env.P 22=false:=by kernel_rfl
@[simp] theorem TP:apT env.P 22=true:=by kernel_rfl
@[simp] theorem S1:elOk env.P 22=true:=by kernel_rfl
@[simp] theorem TH:elZ env.P 22=3:=by kernel_rfl
@[simp] theorem S6:elBy env.P 22=12:=by kernel_rfl
@[simp] theorem Pl:iO env.P 22=(.agg [(a8 0),(a32 0),(.v (.bool false))]):=by kernel_rfl
@[simp] theorem P4:aT env.P 23=(some 1):=by kernel_rfl
@[simp] theorem R1:tagg env.P 23=(some false):=by kernel_rfl
@[simp] theorem HB:eG env.P 23=(some 81):=by kernel_rfl
@[simp] theorem RM:tarr env.P 23=none:=by kernel_rfl
@[simp] theorem QT:isStr env.P 23=false:=by kernel_rfl
@[simp] theorem TO:apT env.P 23=true:=by kernel_rfl
@[simp] theorem S0:elOk env.P 23=true:=by kernel_rfl
@[simp] theorem TG:elZ env.P 23=5:=by kernel_rfl
@[simp] theorem S5:elBy env.P 23=32:=by kernel_rfl
@[simp] theorem Pk:iO env.P 23=(.agg [(a8 0),(a32 0),(.v (.int .i64 0)),(.v (.int .i64 0)),(.v (.int .i64 0))]):=by kernel_rfl
@[simp] theorem P3:aT env.P 25=(some 3):=by kernel_rfl
@[simp] theorem R0:tagg env.P 25=(some true):=by kernel_rfl
@[simp] theorem RL:tarr env.P 25=none:=by kernel_rfl
@[simp] theorem PQ:fW env.P 25=(some (.agg [(.v (.slice none 0 0)),(.v (.slice none 0 0)),(.v (.int .i64 0))])):=by kernel_rfl
@[simp] theorem Ch:fB env.P 25=(some [22,23,3]):=by kernel_rfl
@[simp] theorem OF:gE env.P 25=(some [(0,1),(1,1),(2,1)]):=by kernel_rfl
@[simp] theorem Me:ay env.P 25 0=(some (0,1)):=by kernel_rfl
@[simp] theorem L3:ay env.P 25 1=(some (1,1)):=by kernel_rfl
@[simp] theorem LR:ay env.P 25 2=(some (2,1)):=by kernel_rfl
@[simp] theorem P2:aT env.P 26=(some 1):=by kernel_rfl
@[simp] theorem RZ:tagg env.P 26=(some false):=by kernel_rfl
@[simp] theorem HA:eG env.P 26=(some 62):=by kernel_rfl
@[simp] theorem RK:tarr env.P 26=none:=by kernel_rfl
@[simp] theorem QS:isStr env.P 26=false:=by kernel_rfl
@[simp] theorem TN:apT env.P 26=true:=by kernel_rfl
@[simp] theorem SZ:elOk env.P 26=true:=by kernel_rfl
@[simp] theorem TF:elZ env.P 26=24:=by kernel_rfl
@[simp] theorem S4:elBy env.P 26=160:=by kernel_rfl
@[simp] theorem Pj:iO env.P 26=(.agg [(a8 0),(.v (.int .i64 0)),(a8 0),(a8 0),(a32 0),(a8 0),(.v (.int .i64 0)),(a8 0),(a32 0),(a8 0),(.v (.int .i64 0)),(.v (.int .i64 0)),(a8 0),(a32 0),(a8 0),(.v (.int .i64 0)),(a8 0),(a32 0),(.v (.slice none 0 0)),(.v (.int .i64 0)),(.v (.int .i64 0)),(a8 0),(a32 0),(.v (.bool false))]):=by kernel_rfl
@[simp] theorem P1:aT env.P 27=(some 1):=by kernel_rfl
@[simp] theorem RY:tagg env.P 27=(some false):=by kernel_rfl
@[simp] theorem QO:n8 env.P 27=(some 1):=by kernel_rfl
@[simp] theorem MZ:intKind env.P 27=(some .u32):=by kernel_rfl
@[simp] theorem Rw:(env.P.underlying 27).isNone=false:=by kernel_rfl
@[simp] theorem P0:aT env.P 29=(some 2):=by kernel_rfl
@[simp] theorem RX:tagg env.P 29=(some true):=by kernel_rfl
@[simp] theorem RJ:tarr env.P 29=none:=by kernel_rfl
@[simp] theorem PO:fW env.P 29=(some (.agg [(a8 0),(a32 0)])):=by kernel_rfl
@[simp] theorem QN:n8 env.P 29=none:=by kernel_rfl
@[simp] theorem SO:eqTy env.P 29=true:=by kernel_rfl
@[simp] theorem Cg:fB env.P 29=(some [5,27]):=by kernel_rfl
@[simp] theorem OE:gE env.P 29=(some [(0,1),(1,1)]):=by kernel_rfl
@[simp] theorem Md:ay env.P 29 0=(some (0,1)):=by kernel_rfl
@[simp] theorem L2:ay env.P 29 1=(some (1,1)):=by kernel_rfl
@[simp] theorem PZ:aT env.P 31=(some 3):=by kernel_rfl
@[simp] theorem RW:tagg env.P 31=(some true):=by kernel_rfl
@[simp] theorem RI:tarr env.P 31=none:=by kernel_rfl
@[simp] theorem PN:fW env.P 31=(some (.agg [(a8 0),(a32 0),(a8 0)])):=by kernel_rfl
@[simp] theorem QM:n8 env.P 31=none:=by kernel_rfl
@[simp] theorem SN:eqTy env.P 31=true:=by kernel_rfl
@[simp] theorem Cf:fB env.P 31=(some [29,5]):=by kernel_rfl
@[simp] theorem OD:gE env.P 31=(some [(0,2),(2,1)]):=by kernel_rfl
@[simp] theorem Mc:ay env.P 31 0=(some (0,2)):=by kernel_rfl
@[simp] theorem L1:ay env.P 31 1=(some (2,1)):=by kernel_rfl
@[simp] theorem PY:aT env.P 33=(some 4):=by kernel_rfl
@[simp] theorem RV:tagg env.P 33=(some true):=by kernel_rfl
@[simp] theorem RH:tarr env.P 33=none:=by kernel_rfl
@[simp] theorem PM:fW env.P 33=(some (.agg [(a8 0),(a32 0),(a8 0),(.v (.int .i64 0))])):=by kernel_rfl
@[simp] theorem QL:n8 env.P 33=none:=by kernel_rfl
@[simp] theorem SM:eqTy env.P 33=true:=by kernel_rfl
@[simp] theorem Ce:fB env.P 33=(some [31,3]):=by kernel_rfl
@[simp] theorem OC:gE env.P 33=(some [(0,3),(3,1)]):=by kernel_rfl
@[simp] theorem Mb:ay env.P 33 0=(some (0,3)):=by kernel_rfl
@[simp] theorem L0:ay env.P 33 1=(some (3,1)):=by kernel_rfl
@[simp] theorem PX:aT env.P 35=(some 5):=by kernel_rfl
@[simp] theorem RU:tagg env.P 35=(some true):=by kernel_rfl
@[simp] theorem QK:n8 env.P 35=none:=by kernel_rfl
@[simp] theorem SL:eqTy env.P 35=true:=by kernel_rfl
@[simp] theorem Cd:fB env.P 35=(some [33,3]):=by kernel_rfl
@[simp] theorem Ma:ay env.P 35 0=(some (0,4)):=by kernel_rfl
@[simp] theorem LZ:ay env.P 35 1=(some (4,1)):=by kernel_rfl
@[simp] theorem PW:aT env.P 36=(some 1):=by kernel_rfl
@[simp] theorem RT:tagg env.P 36=(some false):=by kernel_rfl
@[simp] theorem Hz:eG env.P 36=(some 21):=by kernel_rfl
@[simp] theorem RG:tarr env.P 36=none:=by kernel_rfl
@[simp] theorem QR:isStr env.P 36=false:=by kernel_rfl
@[simp] theorem TM:apT env.P 36=true:=by kernel_rfl
@[simp] theorem SY:elOk env.P 36=true:=by kernel_rfl
@[simp] theorem TE:elZ env.P 36=1:=by kernel_rfl
@[simp] theorem S3:elBy env.P 36=4:=by kernel_rfl
@[simp] theorem Ph:iO env.P 36=(.v (.int .i32 0)):=by kernel_rfl
@[simp] theorem PV:aT env.P 38=(some 17):=by kernel_rfl
@[simp] theorem RS:tagg env.P 38=(some true):=by kernel_rfl
@[simp] theorem PL:fW env.P 38=(some (.agg [(a8 0),(a8 0),(a32 0),(a8 0),(.v (.int .i64 0)),(a8 0),(a32 0),(a8 0),(.v (.int .i64 0)),(.v (.int .i64 0)),(a8 0),(a32 0),(a8 0),(.v (.int .i64 0)),(a8 0),(a32 0),(.v (.slice none 0 0))])):=by kernel_rfl
@[simp] theorem Cc:fB env.P 38=(some [5,31,3,35,33,29,36]):=by kernel_rfl
@[simp] theorem L9:ay env.P 38 0=(some (0,1)):=by kernel_rfl
@[simp] theorem LY:ay env.P 38 1=(some (1,3)):=by kernel_rfl
@[simp] theorem LQ:ay env.P 38 2=(some (4,1)):=by kernel_rfl
@[simp] theorem LM:ay env.P 38 3=(some (5,5)):=by kernel_rfl
@[simp] theorem LJ:ay env.P 38 4=(some (10,4)):=by kernel_rfl
@[simp] theorem LH:ay env.P 38 5=(some (14,2)):=by kernel_rfl
@[simp] theorem LG:ay env.P 38 6=(some (16,1)):=by kernel_rfl
@[simp] theorem PU:aT env.P 41=(some 1):=by kernel_rfl
@[simp] theorem RR:tagg env.P 41=(some false):=by kernel_rfl
@[simp] theorem P6:eG env.P 41=(some 38):=by kernel_rfl
@[simp] theorem RF:tarr env.P 41=none:=by kernel_rfl
@[simp] theorem QQ:isStr env.P 41=false:=by kernel_rfl
@[simp] theorem TL:apT env.P 41=true:=by kernel_rfl
@[simp] theorem SX:elOk env.P 41=true:=by kernel_rfl
@[simp] theorem TD:elZ env.P 41=17:=by kernel_rfl
@[simp] theorem S2:elBy env.P 41=112:=by kernel_rfl
@[simp] theorem Pg:iO env.P 41=(.agg [(a8 0),(a8 0),(a32 0),(a8 0),(.v (.int .i64 0)),(a8 0),(a32 0),(a8 0),(.v (.int .i64 0)),(.v (.int .i64 0)),(a8 0),(a32 0),(a8 0),(.v (.int .i64 0)),(a8 0),(a32 0),(.v (.slice none 0 0))]):=by kernel_rfl
@[simp] theorem PT:aT env.P 42=(some 1):=by kernel_rfl
@[simp] theorem RQ:tagg env.P 42=(some false):=by kernel_rfl
@[simp] theorem MY:intKind env.P 42=(some .i64):=by kernel_rfl
@[simp] theorem Rv:(env.P.underlying 42).isNone=false:=by kernel_rfl
@[simp] theorem Hw:aT env.P 58=(some 3):=by kernel_rfl
@[simp] theorem KK:tagg env.P 58=(some true):=by kernel_rfl
@[simp] theorem PK:fW env.P 58=(some (.agg [(a8 0),(a32 0),(.v (.bool false))])):=by kernel_rfl
@[simp] theorem QJ:n8 env.P 58=none:=by kernel_rfl
@[simp] theorem we:fB env.P 58=(some [29,4]):=by kernel_rfl
@[simp] theorem L8:ay env.P 58 0=(some (0,2)):=by kernel_rfl
@[simp] theorem LX:ay env.P 58 1=(some (2,1)):=by kernel_rfl
@[simp] theorem PS:aT env.P 60=(some 4):=by kernel_rfl
@[simp] theorem RP:tagg env.P 60=(some true):=by kernel_rfl
@[simp] theorem QI:n8 env.P 60=none:=by kernel_rfl
@[simp] theorem SK:eqTy env.P 60=true:=by kernel_rfl
@[simp] theorem Cb:fB env.P 60=(some [3,58]):=by kernel_rfl
@[simp] theorem L7:ay env.P 60 0=(some (0,1)):=by kernel_rfl
@[simp] theorem LW:ay env.P 60 1=(some (1,3)):=by kernel_rfl
@[simp] theorem Hv:aT env.P 62=(some 24):=by kernel_rfl
@[simp] theorem KJ:tagg env.P 62=(some true):=by kernel_rfl
@[simp] theorem RE:tarr env.P 62=none:=by kernel_rfl
@[simp] theorem PJ:fW env.P 62=(some (.agg [(a8 0),(.v (.int .i64 0)),(a8 0),(a8 0),(a32 0),(a8 0),(.v (.int .i64 0)),(a8 0),(a32 0),(a8 0),(.v (.int .i64 0)),(.v (.int .i64 0)),(a8 0),(a32 0),(a8 0),(.v (.int .i64 0)),(a8 0),(a32 0),(.v (.slice none 0 0)),(.v (.int .i64 0)),(.v (.int .i64 0)),(a8 0),(a32 0),(.v (.bool false))])):=by kernel_rfl
@[simp] theorem Ca:fB env.P 62=(some [5,3,38,42,60]):=by kernel_rfl
@[simp] theorem OB:gE env.P 62=(some [(0,1),(1,1),(2,17),(19,1),(20,4)]):=by kernel_rfl
@[simp] theorem L6:ay env.P 62 0=(some (0,1)):=by kernel_rfl
@[simp] theorem LV:ay env.P 62 1=(some (1,1)):=by kernel_rfl
@[simp] theorem LP:ay env.P 62 2=(some (2,17)):=by kernel_rfl
@[simp] theorem LL:ay env.P 62 3=(some (19,1)):=by kernel_rfl
@[simp] theorem LI:ay env.P 62 4=(some (20,4)):=by kernel_rfl
@[simp] theorem PR:aT env.P 73=(some 3):=by kernel_rfl
@[simp] theorem RO:tagg env.P 73=(some true):=by kernel_rfl
@[simp] theorem RD:tarr env.P 73=none:=by kernel_rfl
@[simp] theorem PI:fW env.P 73=(some (.agg [(.v (.bool false)),(.v (.int .i64 0)),(.v (.int .i64 0))])):=by kernel_rfl
@[simp] theorem OA:gE env.P 73=(some [(0,1),(1,1),(2,1)]):=by kernel_rfl
@[simp] theorem KH:mq env.P 73 0=(some (0,4)):=by kernel_rfl
@[simp] theorem L5:ay env.P 73 0=(some (0,1)):=by kernel_rfl
@[simp] theorem LU:ay env.P 73 1=(some (1,1)):=by kernel_rfl
@[simp] theorem LO:ay env.P 73 2=(some (2,1)):=by kernel_rfl
@[simp] theorem Hu:aT env.P 81=(some 5):=by kernel_rfl
@[simp] theorem KI:tagg env.P 81=(some true):=by kernel_rfl
@[simp] theorem RC:tarr env.P 81=none:=by kernel_rfl
@[simp] theorem PH:fW env.P 81=(some (.agg [(a8 0),(a32 0),(.v (.int .i64 0)),(.v (.int .i64 0)),(.v (.int .i64 0))])):=by kernel_rfl
@[simp] theorem B9:fB env.P 81=(some [29,3,3,3]):=by kernel_rfl
@[simp] theorem Oz:gE env.P 81=(some [(0,2),(2,1),(3,1),(4,1)]):=by kernel_rfl
@[simp] theorem L4:ay env.P 81 0=(some (0,2)):=by kernel_rfl
@[simp] theorem LS:ay env.P 81 1=(some (2,1)):=by kernel_rfl
@[simp] theorem LN:ay env.P 81 2=(some (3,1)):=by kernel_rfl
@[simp] theorem KG:mq env.P 81 3=(some (4,3)):=by kernel_rfl
@[simp] theorem LK:ay env.P 81 3=(some (4,1)):=by kernel_rfl
@[simp] theorem NX:aT env.P 126=(some 1):=by kernel_rfl
@[simp] theorem Qs:tagg env.P 126=(some false):=by kernel_rfl
@[simp] theorem NW:aT env.P 127=(some 1):=by kernel_rfl
@[simp] theorem Qr:tagg env.P 127=(some false):=by kernel_rfl
@[simp] theorem NV:aT env.P 129=(some 10):=by kernel_rfl
@[simp] theorem Qg:tarr env.P 129=none:=by kernel_rfl
@[simp] theorem NH:fW env.P 129=(some (.agg [(.v (.slice none 0 0)),(.v (.slice none 0 0)),(.v (.int .i64 0)),(.v (.slice none 0 0)),(.v (.slice none 0 0)),(.v (.int .i64 0)),(.v (.slice none 0 0)),(.v (.map none)),(.v (.map none)),(.v (.slice none 0 0))])):=by kernel_rfl
@[simp] theorem MQ:gE env.P 129=(some [(0,3),(3,3),(6,1),(7,1),(8,1),(9,1)]):=by kernel_rfl
@[simp] theorem Kl:ay env.P 129 0=(some (0,3)):=by kernel_rfl
@[simp] theorem Kh:ay env.P 129 1=(some (3,3)):=by kernel_rfl
@[simp] theorem Ke:ay env.P 129 2=(some (6,1)):=by kernel_rfl
@[simp] theorem Kc:ay env.P 129 3=(some (7,1)):=by kernel_rfl
@[simp] theorem Kb:ay env.P 129 4=(some (8,1)):=by kernel_rfl
@[simp] theorem Ka:ay env.P 129 5=(some (9,1)):=by kernel_rfl
@[simp] theorem NU:aT env.P 137=(some 1):=by kernel_rfl
@[simp] theorem Qq:tagg env.P 137=(some false):=by kernel_rfl
@[simp] theorem NT:aT env.P 147=(some 1):=by kernel_rfl
@[simp] theorem Qp:tagg env.P 147=(some false):=by kernel_rfl
@[simp] theorem NS:aT env.P 148=(some 1):=by kernel_rfl
@[simp] theorem Qo:tagg env.P 148=(some false):=by kernel_rfl
@[simp] theorem JB:mq env.P 150 0=(some (0,147)):=by kernel_rfl
@[simp] theorem Jz:mq env.P 150 1=(some (1,148)):=by kernel_rfl
@[simp] theorem NR:aT env.P 170=(some 1):=by kernel_rfl
@[simp] theorem Qn:tagg env.P 170=(some false):=by kernel_rfl
@[simp] theorem N2:eG env.P 170=(some 5):=by kernel_rfl
@[simp] theorem Qf:tarr env.P 170=none:=by kernel_rfl
@[simp] theorem OY:isStr env.P 170=false:=by kernel_rfl
@[simp] theorem Tg:apT env.P 170=true:=by kernel_rfl
@[simp] theorem Ra:elOk env.P 170=true:=by kernel_rfl
@[simp] theorem SW:elZ env.P 170=1:=by kernel_rfl
@[simp] theorem Rd:elBy env.P 170=1:=by kernel_rfl
@[simp] theorem Nl:iO env.P 170=(a8 0):=by kernel_rfl
@[simp] theorem NQ:aT env.P 173=(some 24):=by kernel_rfl
@[simp] theorem Qe:tarr env.P 173=none:=by kernel_rfl
@[simp] theorem NG:fW env.P 173=(some (.agg [(a8 0),(.v (.int .i64 0)),(a8 0),(a8 0),(a32 0),(a8 0),(.v (.int .i64 0)),(a8 0),(a32 0),(a8 0),(.v (.int .i64 0)),(.v (.int .i64 0)),(a8 0),(a32 0),(a8 0),(.v (.int .i64 0)),(a8 0),(a32 0),(.v (.slice none 0 0)),(.v (.int .i64 0)),(.v (.int .i64 0)),(a8 0),(a32 0),(.v (.bool false))])):=by kernel_rfl
@[simp] theorem MP:gE env.P 173=(some [(0,24)]):=by kernel_rfl
@[simp] theorem Kk:ay env.P 173 0=(some (0,24)):=by kernel_rfl
@[simp] theorem NP:aT env.P 180=(some 1):=by kernel_rfl
@[simp] theorem Qm:tagg env.P 180=(some false):=by kernel_rfl
@[simp] theorem NO:aT env.P 203=(some 2):=by kernel_rfl
@[simp] theorem Ql:tagg env.P 203=(some true):=by kernel_rfl
@[simp] theorem JA:mq env.P 203 0=(some (0,137)):=by kernel_rfl
@[simp] theorem Qd:tarr env.P 204=(some (4,203)):=by kernel_rfl
@[simp] theorem NN:aT env.P 230=(some 1):=by kernel_rfl
@[simp] theorem Qk:tagg env.P 230=(some false):=by kernel_rfl
@[simp] theorem N1:eG env.P 244=(some 33):=by kernel_rfl
@[simp] theorem Qc:tarr env.P 244=none:=by kernel_rfl
@[simp] theorem OX:isStr env.P 244=false:=by kernel_rfl
@[simp] theorem Tf:apT env.P 244=true:=by kernel_rfl
@[simp] theorem Q9:elOk env.P 244=true:=by kernel_rfl
@[simp] theorem SV:elZ env.P 244=4:=by kernel_rfl
@[simp] theorem Rc:elBy env.P 244=24:=by kernel_rfl
@[simp] theorem Nk:iO env.P 244=(.agg [(a8 0),(a32 0),(a8 0),(.v (.int .i64 0))]):=by kernel_rfl
@[simp] theorem NM:aT env.P 249=(some 10):=by kernel_rfl
@[simp] theorem Qj:tagg env.P 249=(some true):=by kernel_rfl
@[simp] theorem Qb:tarr env.P 249=none:=by kernel_rfl
@[simp] theorem NF:fW env.P 249=(some (.agg [(a8 0),(a32 0),(a8 0),(.v (.int .i64 0)),(.v (.int .i64 0)),(a8 0),(a32 0),(a8 0),(.v (.int .i64 0)),(.v (.slice none 0 0))])):=by kernel_rfl
@[simp] theorem MO:gE env.P 249=(some [(0,5),(5,4),(9,1)]):=by kernel_rfl
@[simp] theorem Kj:ay env.P 249 0=(some (0,5)):=by kernel_rfl
@[simp] theorem Kg:ay env.P 249 1=(some (5,4)):=by kernel_rfl
@[simp] theorem Kd:ay env.P 249 2=(some (9,1)):=by kernel_rfl
@[simp] theorem N0:eG env.P 262=(some 4):=by kernel_rfl
@[simp] theorem Qa:tarr env.P 262=none:=by kernel_rfl
@[simp] theorem OW:isStr env.P 262=false:=by kernel_rfl
@[simp] theorem Q8:elOk env.P 262=true:=by kernel_rfl
@[simp] theorem SU:elZ env.P 262=1:=by kernel_rfl
@[simp] theorem Nj:iO env.P 262=(.v (.bool false)):=by kernel_rfl
@[simp] theorem NL:aT env.P 264=(some 1):=by kernel_rfl
@[simp] theorem Qi:tagg env.P 264=(some false):=by kernel_rfl
@[simp] theorem NK:aT env.P 266=(some 2):=by kernel_rfl
@[simp] theorem P9:tarr env.P 266=none:=by kernel_rfl
@[simp] theorem ND:fW env.P 266=(some (.agg [(.v (.slice none 0 0)),(.v (.map none))])):=by kernel_rfl
@[simp] theorem MN:gE env.P 266=(some [(0,1),(1,1)]):=by kernel_rfl
@[simp] theorem Ki:ay env.P 266 0=(some (0,1)):=by kernel_rfl
@[simp] theorem Kf:ay env.P 266 1=(some (1,1)):=by kernel_rfl
@[simp] theorem NJ:aT env.P 277=(some 1):=by kernel_rfl
@[simp] theorem Qh:tagg env.P 277=(some false):=by kernel_rfl
@[simp] theorem NZ:eG env.P 277=(some 29):=by kernel_rfl
@[simp] theorem P8:tarr env.P 277=none:=by kernel_rfl
@[simp] theorem OV:isStr env.P 277=false:=by kernel_rfl
@[simp] theorem NC:fW env.P 277=(some (.v (.slice none 0 0))):=by kernel_rfl
@[simp] theorem Te:apT env.P 277=true:=by kernel_rfl
@[simp] theorem Q7:elOk env.P 277=true:=by kernel_rfl
@[simp] theorem SS:elZ env.P 277=2:=by kernel_rfl
@[simp] theorem Rb:elBy env.P 277=8:=by kernel_rfl
@[simp] theorem Ni:iO env.P 277=(.agg [(a8 0),(a32 0)]):=by kernel_rfl
@[simp] theorem NY:eG env.P 279=(some 170):=by kernel_rfl
@[simp] theorem P7:tarr env.P 279=none:=by kernel_rfl
@[simp] theorem OU:isStr env.P 279=false:=by kernel_rfl
@[simp] theorem Q6:elOk env.P 279=true:=by kernel_rfl
@[simp] theorem SR:elZ env.P 279=1:=by kernel_rfl
@[simp] theorem Nh:iO env.P 279=(.v (.slice none 0 0)):=by kernel_rfl
end Go.Proofs.YtmkmimgokagimaaGreat
