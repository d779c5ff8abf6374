/-
  The facts on the program's types, computed. No statement of a seat is proved here.
-/
import Derived.Test.YtmkmimgokagimaaGreatRows
import Derived.Test.YtmkmimgokagimaaGreatAbsRules
set_option linter.unusedVariables false
set_option maxRecDepth 1000000
namespace Go.Proofs.YtmkmimgokagimaaGreat
open Go.Ab
def fns:List FuncId:=[5,7,11,13,17,19,22,23,25,27,29,31,34,42,43,44,47,49,52,61,62,63,69,70,71,72,75,76,77,80,81,82,83,84,87,88,90,91,92,95,97,98,100,101,102,103,104,105,106,108,111,112,113,114,115,116,117,118,119,120,121,122,123,124,125,126,127,133,135,136,137,145,146,147,148,149,150,151,152,153,159,160,161,162,163,164,165,166,167,168,169,170,171,172,173,174,175,176,182,183,184,185,186,187,188,189,190,191,192,193,202,203,205,206,207,208,209,210,211,212,213,214,215,216,217,218,219,220,225,226,227,228,229,230,231,232,233,234,235,239,240,241,242,243,244,246,247,248,249,250,251]
def keep:List FuncId:=[84,160,162,173,205,206,209,225]
def thr:List FuncId:=[64,65,69,71,72,75,77,81,83,87,88,90,92,95,97,98,100,145,146,147,148,149,150,151,153,172,193,218,219,220,230,232,233,234,241,242,250]
def memo:List (FuncId × List AV × AV):=[(36,[],.v (.bool true))]
noncomputable def env:Env:=xO Tryz.prog fns keep thr (Da [(19,13,18),(16,1,77777),(55,1,88888),(35,147,88889),(55,72,88889),(10,48,88889),(10,50,88889),(7,5,66666),(20,160,88889)]) (rT [(15,12,0,[(20,23)]),(52,10,0,[(56,58)]),(25,34,4,[(44,43)]),(6,21,0,[(16,4),(20,4),(17,4)]),(58,23,0,[(71,61),(4,61),(5,61),(5,68)]),(7,6,0,[(3,5)]),(64,16,17,[(5,66),(66,7)]),(143,16,25,[(5,145),(145,7),(145,9)])]) (JT [(19,13,18),(16,1,77777),(55,1,88888),(35,147,88889),(55,72,88889),(10,48,88889),(10,50,88889),(7,5,66666),(20,160,88889)]) memo (fun _=>false) (fun _=>none) (fun _ _ _=>none) DK
@[simp] noncomputable def Za(b:Bool)(h:Heap)(n:Nat)(n2:Nat)(a:List AV):=aK env b (limf env) (limt env 0) h (Ref.mk 0 n (Heap.gen h 0 n) 0) (some (AV.fn (Fn.func n2) [] [])) a
@[simp] noncomputable def Zb(h:Heap)(n:Nat)(v:AV):=ai env.P (Heap.get h) n (some v)
@[simp] noncomputable def Zc(h:Heap)(n:Nat)(n2:Nat)(v:AV):=nRes h (Ref.mk 0 n (Heap.gen h 0 n) 0) (qBox env.P (Ref.mk 0 n (Heap.gen h 0 n) 0) n2 (some v))
@[simp] noncomputable def Zd(n:Nat)(v:AV)(n2:Nat):=aa env.P n (some v) n2
@[simp] noncomputable def Ze(n:Nat)(n2:Nat)(i:Int)(v:AV):=qBin env.P .neq n (Operand.tmp n2) (Operand.const (Value.int IntKind.i64 i)) (some v) (some (AV.v (Value.int IntKind.i64 i)))
@[simp] noncomputable def Zf(n:Nat)(n2:Nat)(i:Int)(v:AV):=qBin env.P .add n (Operand.tmp n2) (Operand.const (Value.int IntKind.i64 i)) (some v) (some (AV.v (Value.int IntKind.i64 i)))
@[simp] noncomputable def Zg(v:AV)(v2:AV):=bo (some v) (some v2) (some (AV.v (Value.bool false)))
@[simp] noncomputable def Zh(h:Heap)(n:Nat)(n2:Nat)(n3:Nat)(v:AV):=nRes h (Ref.mk (n+1) n2 (Heap.gen h (n+1) n2) 0) (qBox env.P (Ref.mk (n+1) n2 (Heap.gen h (n+1) n2) 0) n3 (some v))
@[simp] noncomputable def Zi(h:Heap)(n:Nat)(n2:Nat)(v:AV):=ay env.P false (Heap.get h) (Ref.mk 0 n (Heap.gen h 0 n) 0) .len #[n2] [v]
@[simp] noncomputable def Zj(h:Heap)(n:Nat)(n2:Nat):=nRes h (Ref.mk 0 n (Heap.gen h 0 n) 0) (ch env.P (Ref.mk 0 n (Heap.gen h 0 n) 0) n2)
@[simp] noncomputable def Zk(n:Nat)(n2:Nat)(i:Int)(v:AV):=qBin env.P .eql n (Operand.tmp n2) (Operand.const (Value.int IntKind.i64 i)) (some v) (some (AV.v (Value.int IntKind.i64 i)))
@[simp] noncomputable def Zl(v:AV)(v2:AV):=bo (some v) (some (AV.v (Value.bool true))) (some v2)
@[simp] noncomputable def Zm(n:Nat)(n2:Nat)(i:Int)(v:AV):=qBin env.P .geq n (Operand.tmp n2) (Operand.const (Value.int IntKind.i64 i)) (some v) (some (AV.v (Value.int IntKind.i64 i)))
@[simp] noncomputable def Zn(h:Heap)(n:Nat)(n2:Nat)(n3:Nat):=nRes h (Ref.mk (n+1) n2 (Heap.gen h (n+1) n2) 0) (ch env.P (Ref.mk (n+1) n2 (Heap.gen h (n+1) n2) 0) n3)
@[simp] noncomputable def Zo(n:Nat)(n2:Nat)(n3:Nat)(v:AV)(v2:AV):=qBin env.P .lss n (Operand.tmp n2) (Operand.tmp n3) (some v) (some v2)
@[simp] noncomputable def Zp(h:Heap)(n:Nat)(v:AV)(v2:AV):=aG env.P h n (some v) (some v2)
@[simp] noncomputable def Zq(n:Nat)(n2:Nat)(n3:Nat)(v:AV)(v2:AV):=qBin env.P .eql n (Operand.tmp n2) (Operand.tmp n3) (some v) (some v2)
@[simp] noncomputable def Zr(n:Nat)(n2:Nat)(i:Int)(v:AV):=qBin env.P .gtr n (Operand.tmp n2) (Operand.const (Value.int IntKind.i64 i)) (some v) (some (AV.v (Value.int IntKind.i64 i)))
@[simp] noncomputable def Zs(n:Nat)(n2:Nat)(i:Int)(v:AV):=qBin env.P .lss n (Operand.tmp n2) (Operand.const (Value.int IntKind.i64 i)) (some v) (some (AV.v (Value.int IntKind.i64 i)))
@[simp] noncomputable def Zt(h:Heap)(n:Nat)(v:AV)(v2:AV):=aC env.P (Heap.get h) n (some v) (some v2)
@[simp] noncomputable def Zu(h:Heap)(n:Nat)(n2:Nat)(n3:Nat)(v:AV)(v2:AV):=dk env.P true h (Ref.mk 0 n (Heap.gen h 0 n) 0) (some n2) (some n3) v v2
@[simp] noncomputable def Zv(n:Nat)(n2:Nat)(i:Int)(v:AV):=qBin env.P .sub n (Operand.tmp n2) (Operand.const (Value.int IntKind.i64 i)) (some v) (some (AV.v (Value.int IntKind.i64 i)))
@[simp] noncomputable def Zw(h:Heap)(n:Nat)(n2:Nat)(n3:Nat)(v:AV):=cF env.P (Heap.get h) (Ref.mk 0 n (Heap.gen h 0 n) 0) n2 n3 (some v)
@[simp] noncomputable def Zx(n:Nat)(n2:Nat)(i:Int)(v:AV):=qBin env.P .leq n (Operand.tmp n2) (Operand.const (Value.int IntKind.i64 i)) (some v) (some (AV.v (Value.int IntKind.i64 i)))
@[simp] noncomputable def Zy(h:Heap)(n:Nat)(n2:Nat)(n3:Nat)(v:AV):=ay env.P false (Heap.get h) (Ref.mk (n+1) n2 (Heap.gen h (n+1) n2) 0) .len #[n3] [v]
@[simp] noncomputable def Zz(n:Nat)(n2:Nat)(n3:Nat)(v:AV)(v2:AV):=qBin env.P .add n (Operand.tmp n2) (Operand.tmp n3) (some v) (some v2)
@[simp] noncomputable def ZA(h:Heap)(n:Nat)(n2:Nat)(n3:Nat)(n4:Nat)(v:AV):=iB env.P false true h (Ref.mk 0 n (Heap.gen h 0 n) 0) n2 n3 (some [(n4,v)])
@[simp] noncomputable def ZB(v:AV):=qVal (some v)
@[simp] noncomputable def ZC(v:AV)(n:Nat):=au (some v) n
@[simp] noncomputable def ZD(h:Heap)(n:Nat)(v:AV)(v2:AV):=aK env true (limf env) (limt env 0) h (Ref.mk 0 n (Heap.gen h 0 n) 0) (some v) [v2]
@[simp] noncomputable def ZE(v:AV):=qUn env.P .not (some v)
@[simp] noncomputable def ZF(n:Nat)(n2:Nat)(n3:Nat)(v:AV)(v2:AV):=qBin env.P .neq n (Operand.tmp n2) (Operand.tmp n3) (some v) (some v2)
@[simp] noncomputable def ZG(h:Heap)(n:Nat)(v:AV)(v2:AV):=eB env.P (Heap.get h) n (some v) (some none) (oi v2) (some none)
@[simp] noncomputable def ZH(h:Heap)(n:Nat)(v:AV)(v2:AV):=cG env.P (Heap.get h) n (some v) (some v2) false
@[simp] noncomputable def ZI(n:Nat)(h:Heap)(n2:Nat)(v:AV)(v2:AV):=aK env true (limf env) (limt env (n+1)) h (Ref.mk (n+1) n2 (Heap.gen h (n+1) n2) 0) (some v) [v2]
@[simp] noncomputable def ZJ(n:Nat)(n2:Nat)(v:AV):=qBin env.P .eql n (Operand.tmp n2) (.const (.int .u8 1)) (some v) (some (a8 1))
@[simp] noncomputable def ZK(n:Nat)(h:Heap)(n2:Nat)(v:AV):=aK env true (limf env) (limt env (n+1)) h (Ref.mk (n+1) n2 (Heap.gen h (n+1) n2) 0) (some (.fn (.func 213) [] [])) [v]
@[simp] noncomputable def ZL(h:Heap)(n:Nat)(n2:Nat):=nRes h (Ref.mk (n+1) n2 (Heap.gen h (n+1) n2) 0) (some (.mp (Ref.mk (n+1) n2 (Heap.gen h (n+1) n2) 0),[ba []]))
@[simp] noncomputable def ZM(n:Nat)(n2:Nat)(n3:Nat)(v:AV)(v2:AV):=qBin env.P .leq n (Operand.tmp n2) (Operand.tmp n3) (some v) (some v2)
@[simp] noncomputable def ZN(v:AV):=qNil (some v)
@[simp] noncomputable def ZO(n:Nat)(n2:Nat)(v:AV):=qBin env.P .eql n (Operand.tmp n2) (.const (.slice none 0 0)) (some v) (some (.v (.slice none 0 0)))
@[simp] noncomputable def ZP(n:Nat)(n2:Nat)(n3:Nat)(v:AV)(v2:AV):=qBin env.P .sub n (Operand.tmp n2) (Operand.tmp n3) (some v) (some v2)
@[simp] noncomputable def ZQ(n:Nat)(h:Heap)(n2:Nat)(v:AV)(v2:AV)(v3:AV):=aK env true (limf env) (limt env (n+1)) h (Ref.mk (n+1) n2 (Heap.gen h (n+1) n2) 0) (some v) [v2,v3]
@[simp] noncomputable def ZR(h:Heap)(n:Nat)(n2:Nat)(v:AV):=ay env.P false (Heap.get h) (Ref.mk 0 n (Heap.gen h 0 n) 0) .cap #[n2] [v]
@[simp] noncomputable def ZS(n:Nat)(n2:Nat)(v:AV):=qBin env.P .shr n (Operand.tmp n2) (.const (.int .u64 8)) (some v) (some (.v (.int .u64 8)))
@[simp] noncomputable def ZT(n:Nat)(i:Int)(n2:Nat)(v:AV):=qBin env.P .mul n (Operand.const (Value.int IntKind.i64 i)) (Operand.tmp n2) (some (AV.v (Value.int IntKind.i64 i))) (some v)
@[simp] noncomputable def ZU(n:Nat)(h:Heap)(n2:Nat)(v:AV)(v2:AV):=aK env false (limf env) (limt env (n+1)) h (Ref.mk (n+1) n2 (Heap.gen h (n+1) n2) 0) (some (.fn (.func 152) [] [])) [v,v2]
@[simp] noncomputable def ZV(n:Nat)(h:Heap)(n2:Nat)(v:AV)(v2:AV):=aK env true (limf env) (limt env (n+1)) h (Ref.mk (n+1) n2 (Heap.gen h (n+1) n2) 0) (some (.fn (.func 100) [] [])) [v,v2]
@[simp] noncomputable def ZW(n:Nat)(h:Heap)(n2:Nat)(v:AV)(v2:AV):=aK env false (limf env) (limt env (n+1)) h (Ref.mk (n+1) n2 (Heap.gen h (n+1) n2) 0) (some (.fn (.func 44) [] [])) [v,v2]
@[simp] noncomputable def ZX(n:Nat)(h:Heap)(n2:Nat)(v:AV)(v2:AV):=aK env true (limf env) (limt env (n+1)) h (Ref.mk (n+1) n2 (Heap.gen h (n+1) n2) 0) (some (.fn (.func 146) [] [])) [v,v2]
@[simp] noncomputable def ZY(n:Nat)(h:Heap)(n2:Nat)(v:AV)(v2:AV)(v3:AV):=aK env true (limf env) (limt env (n+1)) h (Ref.mk (n+1) n2 (Heap.gen h (n+1) n2) 0) (some (.fn (.func 230) [] [])) [v,v2,v3]
@[simp] noncomputable def ZZ(n:Nat)(h:Heap)(n2:Nat)(v:AV)(v2:AV):=aK env true (limf env) (limt env (n+1)) h (Ref.mk (n+1) n2 (Heap.gen h (n+1) n2) 0) (some (.fn (.func 232) [] [])) [v,v2]
@[simp] noncomputable def Z0(n:Nat)(h:Heap)(n2:Nat)(v:AV)(v2:AV):=aK env true (limf env) (limt env (n+1)) h (Ref.mk (n+1) n2 (Heap.gen h (n+1) n2) 0) (some (.fn (.func 234) [] [])) [v,v2]
@[simp] noncomputable def Z1(n:Nat)(n2:Nat)(n3:Nat)(v:AV)(v2:AV):=qBin env.P .geq n (Operand.tmp n2) (Operand.tmp n3) (some v) (some v2)
@[simp] noncomputable def Z2(n:Nat)(n2:Nat)(v:AV):=qBin env.P .eql n (Operand.tmp n2) (.const (.int .u8 3)) (some v) (some (a8 3))
@[simp] noncomputable def Z3(n:Nat)(n2:Nat)(v:AV):=qBin env.P .eql n (Operand.tmp n2) (.const (.int .u8 2)) (some v) (some (a8 2))
@[simp] noncomputable def Z4(h:Heap)(n:Nat)(n2:Nat)(n3:Nat)(n4:Nat)(n5:Nat)(v:AV):=iB env.P true false h (Ref.mk (n+1) n2 (Heap.gen h (n+1) n2) 0) n3 n4 (some [(n5,v)])
@[simp] noncomputable def Z5(n:Nat):=eC env.P n (some [])
@[simp] noncomputable def Z6(h:Heap)(n:Nat)(n2:Nat)(n3:Nat)(n4:Nat)(v:AV)(v2:AV):=dk env.P true h (Ref.mk (n+1) n2 (Heap.gen h (n+1) n2) 0) (some n3) (some n4) v v2
@[simp] noncomputable def Z7(h:Heap)(n:Nat)(n2:Nat)(n3:Nat)(v:AV)(v2:AV):=ay env.P true (Heap.get h) (Ref.mk 0 n (Heap.gen h 0 n) 0) .max #[n2,n3] [v,v2]
@[simp] noncomputable def Z8(h:Heap)(n:Nat)(n2:Nat)(n3:Nat):=iB env.P false true h (Ref.mk 0 n (Heap.gen h 0 n) 0) n2 n3 (some [])
@[simp] noncomputable def Z9(n:Nat)(n2:Nat)(v:AV):=qBin env.P .shr n (Operand.tmp n2) (.const (.int .u64 16)) (some v) (some (.v (.int .u64 16)))
@[simp] noncomputable def Ya(n:Nat)(n2:Nat)(n3:Nat)(v:AV)(v2:AV):=qBin env.P .gtr n (Operand.tmp n2) (Operand.tmp n3) (some v) (some v2)
@[simp] noncomputable def Yb(h:Heap)(v:AV)(n:Nat):=cJ env.P h v n
@[simp] noncomputable def Yc(h:Heap)(v:AV)(v2:AV)(v3:AV):=cy h (some v) (some v2) (some v3)
@[simp] noncomputable def Yd(h:Heap)(n:Nat)(v:AV)(v2:AV):=du env.P h n (some v) (some v2)
@[simp] noncomputable def Ye(n:Nat)(n2:Nat)(v:AV):=eC env.P n (some [(n2,v)])
theorem GZ:GY env fns=true:=by kernel_rfl
@[simp] theorem TO{f:FuncId}(h:thr.contains f=false):(env.mode f == 2)=false:=by
 show((if keep.contains f then (if thr.contains f then 3 else 1) else if thr.contains f then 2 else 0) == 2)=false
 rw[h]
 split<;>rfl
@[simp] theorem SE{f:FuncId}(h:thr.contains f=false):(env.mode f == 3)=false:=by
 show((if keep.contains f then (if thr.contains f then 3 else 1) else if thr.contains f then 2 else 0) == 3)=false
 rw[h]
 split<;>rfl
theorem SI{f:FuncId}(h:keep.contains f=false):tY (env.mode f)=false:=by
 show tY (if keep.contains f then (if thr.contains f then 3 else 1) else if thr.contains f then 2 else 0)=false
 rw[h]
 cases thr.contains f<;>rfl
@[simp] theorem LK{f:FuncId}(h:keep.contains f=false)(x:AV)(H:Heap)(y:AV):o3 env f x H y↔view H.get depth x=some y:=GU (SI h) x H y
theorem SH{f:FuncId}(h:keep.contains f=true):tY (env.mode f)=true:=by
 show tY (if keep.contains f then (if thr.contains f then 3 else 1) else if thr.contains f then 2 else 0)=true
 rw[h]
 cases thr.contains f<;>rfl
@[simp] theorem SP{f:FuncId}(h:keep.contains f=true)(x:AV)(H:Heap)(y:AV):o3 env f x H y↔(ar H.get depth x).Nodup∧dg H.get depth x=some y:=Cq (SH h) x H y
@[simp] theorem RQ:aT env.P 3=(some 1):=by kernel_rfl
@[simp] theorem TB:tagg env.P 3=(some false):=by kernel_rfl
@[simp] theorem SN:nZ env.P 3=(some 1):=by kernel_rfl
@[simp] theorem SO:isInt env.P 3=true:=by kernel_rfl
@[simp] theorem Pf:intKind env.P 3=(some .i64):=by kernel_rfl
@[simp] theorem Tx:(env.P.underlying 3).isNone=false:=by kernel_rfl
@[simp] theorem RP:aT env.P 4=(some 1):=by kernel_rfl
@[simp] theorem TA:tagg env.P 4=(some false):=by kernel_rfl
@[simp] theorem SM:nZ env.P 4=(some 0):=by kernel_rfl
@[simp] theorem Rb:isBool env.P 4=true:=by kernel_rfl
@[simp] theorem RO:aT env.P 5=(some 1):=by kernel_rfl
@[simp] theorem Tz:tagg env.P 5=(some false):=by kernel_rfl
@[simp] theorem SL:nZ env.P 5=(some 1):=by kernel_rfl
@[simp] theorem Pe:intKind env.P 5=(some .u8):=by kernel_rfl
@[simp] theorem HP:aT env.P 21=(some 1):=by kernel_rfl
@[simp] theorem KT:tagg env.P 21=(some false):=by kernel_rfl
@[simp] theorem Na:intKind env.P 21=(some .i32):=by kernel_rfl
@[simp] theorem RM:(env.P.underlying 21).isNone=false:=by kernel_rfl
@[simp] theorem Qk:aT env.P 22=(some 1):=by kernel_rfl
@[simp] theorem Sh:tagg env.P 22=(some false):=by kernel_rfl
@[simp] theorem HT:eE env.P 22=(some 58):=by kernel_rfl
@[simp] theorem R2:tarr env.P 22=none:=by kernel_rfl
@[simp] theorem Ra:isStr env.P 22=false:=by kernel_rfl
@[simp] theorem Ue:apT env.P 22=true:=by kernel_rfl
@[simp] theorem Tg:elOk env.P 22=true:=by kernel_rfl
@[simp] theorem TZ:elZ env.P 22=3:=by kernel_rfl
@[simp] theorem Tl:elBy env.P 22=12:=by kernel_rfl
@[simp] theorem PA:iO env.P 22=(.agg [(a8 0),(a32 0),(.v (.bool false))]):=by kernel_rfl
@[simp] theorem Qj:aT env.P 23=(some 1):=by kernel_rfl
@[simp] theorem Sg:tagg env.P 23=(some false):=by kernel_rfl
@[simp] theorem HS:eE env.P 23=(some 81):=by kernel_rfl
@[simp] theorem R1:tarr env.P 23=none:=by kernel_rfl
@[simp] theorem Q9:isStr env.P 23=false:=by kernel_rfl
@[simp] theorem Ud:apT env.P 23=true:=by kernel_rfl
@[simp] theorem Tf:elOk env.P 23=true:=by kernel_rfl
@[simp] theorem TY:elZ env.P 23=5:=by kernel_rfl
@[simp] theorem Tk:elBy env.P 23=32:=by kernel_rfl
@[simp] theorem Pz:iO env.P 23=(.agg [(a8 0),(a32 0),(.v (.int .i64 0)),(.v (.int .i64 0)),(.v (.int .i64 0))]):=by kernel_rfl
@[simp] theorem Qi:aT env.P 25=(some 3):=by kernel_rfl
@[simp] theorem Sf:tagg env.P 25=(some true):=by kernel_rfl
@[simp] theorem R0:tarr env.P 25=none:=by kernel_rfl
@[simp] theorem P5:gb env.P 25=(some (.agg [(.v (.slice none 0 0)),(.v (.slice none 0 0)),(.v (.int .i64 0))])):=by kernel_rfl
@[simp] theorem CD:fF env.P 25=(some [22,23,3]):=by kernel_rfl
@[simp] theorem OO:gN env.P 25=(some [(0,1),(1,1),(2,1)]):=by kernel_rfl
@[simp] theorem Mm:aw env.P 25 0=(some (0,1)):=by kernel_rfl
@[simp] theorem Ma:aw env.P 25 1=(some (1,1)):=by kernel_rfl
@[simp] theorem LZ:aw env.P 25 2=(some (2,1)):=by kernel_rfl
@[simp] theorem Qh:aT env.P 26=(some 1):=by kernel_rfl
@[simp] theorem Se:tagg env.P 26=(some false):=by kernel_rfl
@[simp] theorem HR:eE env.P 26=(some 62):=by kernel_rfl
@[simp] theorem RZ:tarr env.P 26=none:=by kernel_rfl
@[simp] theorem Q8:isStr env.P 26=false:=by kernel_rfl
@[simp] theorem Uc:apT env.P 26=true:=by kernel_rfl
@[simp] theorem Te:elOk env.P 26=true:=by kernel_rfl
@[simp] theorem TX:elZ env.P 26=24:=by kernel_rfl
@[simp] theorem Tj:elBy env.P 26=160:=by kernel_rfl
@[simp] theorem Py:iO env.P 26=(.agg [(a8 0),(.v (.int .i64 0)),(a8 0),(a8 0),(a32 0),(a8 0),(.v (.int .i64 0)),(a8 0),(a32 0),(a8 0),(.v (.int .i64 0)),(.v (.int .i64 0)),(a8 0),(a32 0),(a8 0),(.v (.int .i64 0)),(a8 0),(a32 0),(.v (.slice none 0 0)),(.v (.int .i64 0)),(.v (.int .i64 0)),(a8 0),(a32 0),(.v (.bool false))]):=by kernel_rfl
@[simp] theorem Qg:aT env.P 27=(some 1):=by kernel_rfl
@[simp] theorem Sd:tagg env.P 27=(some false):=by kernel_rfl
@[simp] theorem Q4:nZ env.P 27=(some 1):=by kernel_rfl
@[simp] theorem M9:intKind env.P 27=(some .u32):=by kernel_rfl
@[simp] theorem RL:(env.P.underlying 27).isNone=false:=by kernel_rfl
@[simp] theorem Qf:aT env.P 29=(some 2):=by kernel_rfl
@[simp] theorem Sc:tagg env.P 29=(some true):=by kernel_rfl
@[simp] theorem RY:tarr env.P 29=none:=by kernel_rfl
@[simp] theorem P4:gb env.P 29=(some (.agg [(a8 0),(a32 0)])):=by kernel_rfl
@[simp] theorem Q3:nZ env.P 29=none:=by kernel_rfl
@[simp] theorem S4:eqTy env.P 29=true:=by kernel_rfl
@[simp] theorem CC:fF env.P 29=(some [5,27]):=by kernel_rfl
@[simp] theorem ON:gN env.P 29=(some [(0,1),(1,1)]):=by kernel_rfl
@[simp] theorem Ml:aw env.P 29 0=(some (0,1)):=by kernel_rfl
@[simp] theorem L9:aw env.P 29 1=(some (1,1)):=by kernel_rfl
@[simp] theorem Qe:aT env.P 31=(some 3):=by kernel_rfl
@[simp] theorem Sb:tagg env.P 31=(some true):=by kernel_rfl
@[simp] theorem RX:tarr env.P 31=none:=by kernel_rfl
@[simp] theorem P3:gb env.P 31=(some (.agg [(a8 0),(a32 0),(a8 0)])):=by kernel_rfl
@[simp] theorem Q2:nZ env.P 31=none:=by kernel_rfl
@[simp] theorem S3:eqTy env.P 31=true:=by kernel_rfl
@[simp] theorem CB:fF env.P 31=(some [29,5]):=by kernel_rfl
@[simp] theorem OM:gN env.P 31=(some [(0,2),(2,1)]):=by kernel_rfl
@[simp] theorem Mj:aw env.P 31 0=(some (0,2)):=by kernel_rfl
@[simp] theorem L8:aw env.P 31 1=(some (2,1)):=by kernel_rfl
@[simp] theorem Qd:aT env.P 33=(some 4):=by kernel_rfl
@[simp] theorem Sa:tagg env.P 33=(some true):=by kernel_rfl
@[simp] theorem RW:tarr env.P 33=none:=by kernel_rfl
@[simp] theorem P2:gb env.P 33=(some (.agg [(a8 0),(a32 0),(a8 0),(.v (.int .i64 0))])):=by kernel_rfl
@[simp] theorem Q1:nZ env.P 33=none:=by kernel_rfl
@[simp] theorem S2:eqTy env.P 33=true:=by kernel_rfl
@[simp] theorem CA:fF env.P 33=(some [31,3]):=by kernel_rfl
@[simp] theorem OL:gN env.P 33=(some [(0,3),(3,1)]):=by kernel_rfl
@[simp] theorem Mi:aw env.P 33 0=(some (0,3)):=by kernel_rfl
@[simp] theorem L7:aw env.P 33 1=(some (3,1)):=by kernel_rfl
@[simp] theorem Qc:aT env.P 35=(some 5):=by kernel_rfl
@[simp] theorem R9:tagg env.P 35=(some true):=by kernel_rfl
@[simp] theorem Q0:nZ env.P 35=none:=by kernel_rfl
@[simp] theorem S1:eqTy env.P 35=true:=by kernel_rfl
@[simp] theorem Cz:fF env.P 35=(some [33,3]):=by kernel_rfl
@[simp] theorem Mh:aw env.P 35 0=(some (0,4)):=by kernel_rfl
@[simp] theorem L6:aw env.P 35 1=(some (4,1)):=by kernel_rfl
@[simp] theorem Qb:aT env.P 36=(some 1):=by kernel_rfl
@[simp] theorem R8:tagg env.P 36=(some false):=by kernel_rfl
@[simp] theorem HQ:eE env.P 36=(some 21):=by kernel_rfl
@[simp] theorem RV:tarr env.P 36=none:=by kernel_rfl
@[simp] theorem Q7:isStr env.P 36=false:=by kernel_rfl
@[simp] theorem Ub:apT env.P 36=true:=by kernel_rfl
@[simp] theorem Td:elOk env.P 36=true:=by kernel_rfl
@[simp] theorem TW:elZ env.P 36=1:=by kernel_rfl
@[simp] theorem Ti:elBy env.P 36=4:=by kernel_rfl
@[simp] theorem Px:iO env.P 36=(.v (.int .i32 0)):=by kernel_rfl
@[simp] theorem Qa:aT env.P 38=(some 17):=by kernel_rfl
@[simp] theorem R7:tagg env.P 38=(some true):=by kernel_rfl
@[simp] theorem P1:gb env.P 38=(some (.agg [(a8 0),(a8 0),(a32 0),(a8 0),(.v (.int .i64 0)),(a8 0),(a32 0),(a8 0),(.v (.int .i64 0)),(.v (.int .i64 0)),(a8 0),(a32 0),(a8 0),(.v (.int .i64 0)),(a8 0),(a32 0),(.v (.slice none 0 0))])):=by kernel_rfl
@[simp] theorem Cy:fF env.P 38=(some [5,31,3,35,33,29,36]):=by kernel_rfl
@[simp] theorem Mg:aw env.P 38 0=(some (0,1)):=by kernel_rfl
@[simp] theorem L5:aw env.P 38 1=(some (1,3)):=by kernel_rfl
@[simp] theorem LY:aw env.P 38 2=(some (4,1)):=by kernel_rfl
@[simp] theorem LU:aw env.P 38 3=(some (5,5)):=by kernel_rfl
@[simp] theorem LQ:aw env.P 38 4=(some (10,4)):=by kernel_rfl
@[simp] theorem LO:aw env.P 38 5=(some (14,2)):=by kernel_rfl
@[simp] theorem LN:aw env.P 38 6=(some (16,1)):=by kernel_rfl
@[simp] theorem P9:aT env.P 41=(some 1):=by kernel_rfl
@[simp] theorem R6:tagg env.P 41=(some false):=by kernel_rfl
@[simp] theorem Ql:eE env.P 41=(some 38):=by kernel_rfl
@[simp] theorem RU:tarr env.P 41=none:=by kernel_rfl
@[simp] theorem Q6:isStr env.P 41=false:=by kernel_rfl
@[simp] theorem Ua:apT env.P 41=true:=by kernel_rfl
@[simp] theorem Tc:elOk env.P 41=true:=by kernel_rfl
@[simp] theorem TV:elZ env.P 41=17:=by kernel_rfl
@[simp] theorem Th:elBy env.P 41=112:=by kernel_rfl
@[simp] theorem Pw:iO env.P 41=(.agg [(a8 0),(a8 0),(a32 0),(a8 0),(.v (.int .i64 0)),(a8 0),(a32 0),(a8 0),(.v (.int .i64 0)),(.v (.int .i64 0)),(a8 0),(a32 0),(a8 0),(.v (.int .i64 0)),(a8 0),(a32 0),(.v (.slice none 0 0))]):=by kernel_rfl
@[simp] theorem P8:aT env.P 42=(some 1):=by kernel_rfl
@[simp] theorem R5:tagg env.P 42=(some false):=by kernel_rfl
@[simp] theorem M8:intKind env.P 42=(some .i64):=by kernel_rfl
@[simp] theorem RK:(env.P.underlying 42).isNone=false:=by kernel_rfl
@[simp] theorem HO:aT env.P 58=(some 3):=by kernel_rfl
@[simp] theorem KS:tagg env.P 58=(some true):=by kernel_rfl
@[simp] theorem P0:gb env.P 58=(some (.agg [(a8 0),(a32 0),(.v (.bool false))])):=by kernel_rfl
@[simp] theorem QZ:nZ env.P 58=none:=by kernel_rfl
@[simp] theorem wy:fF env.P 58=(some [29,4]):=by kernel_rfl
@[simp] theorem Mf:aw env.P 58 0=(some (0,2)):=by kernel_rfl
@[simp] theorem L4:aw env.P 58 1=(some (2,1)):=by kernel_rfl
@[simp] theorem P7:aT env.P 60=(some 4):=by kernel_rfl
@[simp] theorem R4:tagg env.P 60=(some true):=by kernel_rfl
@[simp] theorem QY:nZ env.P 60=none:=by kernel_rfl
@[simp] theorem S0:eqTy env.P 60=true:=by kernel_rfl
@[simp] theorem Cx:fF env.P 60=(some [3,58]):=by kernel_rfl
@[simp] theorem Me:aw env.P 60 0=(some (0,1)):=by kernel_rfl
@[simp] theorem L3:aw env.P 60 1=(some (1,3)):=by kernel_rfl
@[simp] theorem HN:aT env.P 62=(some 24):=by kernel_rfl
@[simp] theorem KR:tagg env.P 62=(some true):=by kernel_rfl
@[simp] theorem RT:tarr env.P 62=none:=by kernel_rfl
@[simp] theorem PZ:gb env.P 62=(some (.agg [(a8 0),(.v (.int .i64 0)),(a8 0),(a8 0),(a32 0),(a8 0),(.v (.int .i64 0)),(a8 0),(a32 0),(a8 0),(.v (.int .i64 0)),(.v (.int .i64 0)),(a8 0),(a32 0),(a8 0),(.v (.int .i64 0)),(a8 0),(a32 0),(.v (.slice none 0 0)),(.v (.int .i64 0)),(.v (.int .i64 0)),(a8 0),(a32 0),(.v (.bool false))])):=by kernel_rfl
@[simp] theorem Cw:fF env.P 62=(some [5,3,38,42,60]):=by kernel_rfl
@[simp] theorem OK:gN env.P 62=(some [(0,1),(1,1),(2,17),(19,1),(20,4)]):=by kernel_rfl
@[simp] theorem Md:aw env.P 62 0=(some (0,1)):=by kernel_rfl
@[simp] theorem L2:aw env.P 62 1=(some (1,1)):=by kernel_rfl
@[simp] theorem LX:aw env.P 62 2=(some (2,17)):=by kernel_rfl
@[simp] theorem LS:aw env.P 62 3=(some (19,1)):=by kernel_rfl
@[simp] theorem LP:aw env.P 62 4=(some (20,4)):=by kernel_rfl
@[simp] theorem P6:aT env.P 73=(some 3):=by kernel_rfl
@[simp] theorem R3:tagg env.P 73=(some true):=by kernel_rfl
@[simp] theorem RS:tarr env.P 73=none:=by kernel_rfl
@[simp] theorem PY:gb env.P 73=(some (.agg [(.v (.bool false)),(.v (.int .i64 0)),(.v (.int .i64 0))])):=by kernel_rfl
@[simp] theorem OJ:gN env.P 73=(some [(0,1),(1,1),(2,1)]):=by kernel_rfl
@[simp] theorem KP:mo env.P 73 0=(some (0,4)):=by kernel_rfl
@[simp] theorem Mc:aw env.P 73 0=(some (0,1)):=by kernel_rfl
@[simp] theorem L1:aw env.P 73 1=(some (1,1)):=by kernel_rfl
@[simp] theorem LW:aw env.P 73 2=(some (2,1)):=by kernel_rfl
@[simp] theorem HM:aT env.P 81=(some 5):=by kernel_rfl
@[simp] theorem KQ:tagg env.P 81=(some true):=by kernel_rfl
@[simp] theorem RR:tarr env.P 81=none:=by kernel_rfl
@[simp] theorem PX:gb env.P 81=(some (.agg [(a8 0),(a32 0),(.v (.int .i64 0)),(.v (.int .i64 0)),(.v (.int .i64 0))])):=by kernel_rfl
@[simp] theorem Cv:fF env.P 81=(some [29,3,3,3]):=by kernel_rfl
@[simp] theorem OI:gN env.P 81=(some [(0,2),(2,1),(3,1),(4,1)]):=by kernel_rfl
@[simp] theorem Mb:aw env.P 81 0=(some (0,2)):=by kernel_rfl
@[simp] theorem L0:aw env.P 81 1=(some (2,1)):=by kernel_rfl
@[simp] theorem LV:aw env.P 81 2=(some (3,1)):=by kernel_rfl
@[simp] theorem KO:mo env.P 81 3=(some (4,3)):=by kernel_rfl
@[simp] theorem LR:aw env.P 81 3=(some (4,1)):=by kernel_rfl
@[simp] theorem N4:aT env.P 126=(some 1):=by kernel_rfl
@[simp] theorem QH:tagg env.P 126=(some false):=by kernel_rfl
@[simp] theorem N3:aT env.P 127=(some 1):=by kernel_rfl
@[simp] theorem QG:tagg env.P 127=(some false):=by kernel_rfl
@[simp] theorem N2:aT env.P 129=(some 10):=by kernel_rfl
@[simp] theorem Qv:tarr env.P 129=none:=by kernel_rfl
@[simp] theorem NO:gb env.P 129=(some (.agg [(.v (.slice none 0 0)),(.v (.slice none 0 0)),(.v (.int .i64 0)),(.v (.slice none 0 0)),(.v (.slice none 0 0)),(.v (.int .i64 0)),(.v (.slice none 0 0)),(.v (.map none)),(.v (.map none)),(.v (.slice none 0 0))])):=by kernel_rfl
@[simp] theorem MX:gN env.P 129=(some [(0,3),(3,3),(6,1),(7,1),(8,1),(9,1)]):=by kernel_rfl
@[simp] theorem Kv:aw env.P 129 0=(some (0,3)):=by kernel_rfl
@[simp] theorem Kr:aw env.P 129 1=(some (3,3)):=by kernel_rfl
@[simp] theorem Ko:aw env.P 129 2=(some (6,1)):=by kernel_rfl
@[simp] theorem Km:aw env.P 129 3=(some (7,1)):=by kernel_rfl
@[simp] theorem Kl:aw env.P 129 4=(some (8,1)):=by kernel_rfl
@[simp] theorem Kk:aw env.P 129 5=(some (9,1)):=by kernel_rfl
@[simp] theorem N1:aT env.P 137=(some 1):=by kernel_rfl
@[simp] theorem QF:tagg env.P 137=(some false):=by kernel_rfl
@[simp] theorem N0:aT env.P 147=(some 1):=by kernel_rfl
@[simp] theorem QE:tagg env.P 147=(some false):=by kernel_rfl
@[simp] theorem NZ:aT env.P 148=(some 1):=by kernel_rfl
@[simp] theorem QD:tagg env.P 148=(some false):=by kernel_rfl
@[simp] theorem JR:mo env.P 150 0=(some (0,147)):=by kernel_rfl
@[simp] theorem JP:mo env.P 150 1=(some (1,148)):=by kernel_rfl
@[simp] theorem NY:aT env.P 170=(some 1):=by kernel_rfl
@[simp] theorem QC:tagg env.P 170=(some false):=by kernel_rfl
@[simp] theorem N9:eE env.P 170=(some 5):=by kernel_rfl
@[simp] theorem Qu:tarr env.P 170=none:=by kernel_rfl
@[simp] theorem Pd:isStr env.P 170=false:=by kernel_rfl
@[simp] theorem Tv:apT env.P 170=true:=by kernel_rfl
@[simp] theorem Rq:elOk env.P 170=true:=by kernel_rfl
@[simp] theorem Tb:elZ env.P 170=1:=by kernel_rfl
@[simp] theorem Rt:elBy env.P 170=1:=by kernel_rfl
@[simp] theorem Nr:iO env.P 170=(a8 0):=by kernel_rfl
@[simp] theorem NX:aT env.P 173=(some 24):=by kernel_rfl
@[simp] theorem Qt:tarr env.P 173=none:=by kernel_rfl
@[simp] theorem NN:gb env.P 173=(some (.agg [(a8 0),(.v (.int .i64 0)),(a8 0),(a8 0),(a32 0),(a8 0),(.v (.int .i64 0)),(a8 0),(a32 0),(a8 0),(.v (.int .i64 0)),(.v (.int .i64 0)),(a8 0),(a32 0),(a8 0),(.v (.int .i64 0)),(a8 0),(a32 0),(.v (.slice none 0 0)),(.v (.int .i64 0)),(.v (.int .i64 0)),(a8 0),(a32 0),(.v (.bool false))])):=by kernel_rfl
@[simp] theorem MW:gN env.P 173=(some [(0,24)]):=by kernel_rfl
@[simp] theorem Ku:aw env.P 173 0=(some (0,24)):=by kernel_rfl
@[simp] theorem NW:aT env.P 180=(some 1):=by kernel_rfl
@[simp] theorem QB:tagg env.P 180=(some false):=by kernel_rfl
@[simp] theorem NV:aT env.P 203=(some 2):=by kernel_rfl
@[simp] theorem QA:tagg env.P 203=(some true):=by kernel_rfl
@[simp] theorem JQ:mo env.P 203 0=(some (0,137)):=by kernel_rfl
@[simp] theorem Qs:tarr env.P 204=(some (4,203)):=by kernel_rfl
@[simp] theorem NU:aT env.P 230=(some 1):=by kernel_rfl
@[simp] theorem Qz:tagg env.P 230=(some false):=by kernel_rfl
@[simp] theorem N8:eE env.P 244=(some 33):=by kernel_rfl
@[simp] theorem Qr:tarr env.P 244=none:=by kernel_rfl
@[simp] theorem Pc:isStr env.P 244=false:=by kernel_rfl
@[simp] theorem Tu:apT env.P 244=true:=by kernel_rfl
@[simp] theorem Rp:elOk env.P 244=true:=by kernel_rfl
@[simp] theorem Ta:elZ env.P 244=4:=by kernel_rfl
@[simp] theorem Rs:elBy env.P 244=24:=by kernel_rfl
@[simp] theorem Nq:iO env.P 244=(.agg [(a8 0),(a32 0),(a8 0),(.v (.int .i64 0))]):=by kernel_rfl
@[simp] theorem NT:aT env.P 249=(some 10):=by kernel_rfl
@[simp] theorem Qy:tagg env.P 249=(some true):=by kernel_rfl
@[simp] theorem Qq:tarr env.P 249=none:=by kernel_rfl
@[simp] theorem NM:gb env.P 249=(some (.agg [(a8 0),(a32 0),(a8 0),(.v (.int .i64 0)),(.v (.int .i64 0)),(a8 0),(a32 0),(a8 0),(.v (.int .i64 0)),(.v (.slice none 0 0))])):=by kernel_rfl
@[simp] theorem MV:gN env.P 249=(some [(0,5),(5,4),(9,1)]):=by kernel_rfl
@[simp] theorem Kt:aw env.P 249 0=(some (0,5)):=by kernel_rfl
@[simp] theorem Kq:aw env.P 249 1=(some (5,4)):=by kernel_rfl
@[simp] theorem Kn:aw env.P 249 2=(some (9,1)):=by kernel_rfl
@[simp] theorem N7:eE env.P 262=(some 4):=by kernel_rfl
@[simp] theorem Qp:tarr env.P 262=none:=by kernel_rfl
@[simp] theorem Pb:isStr env.P 262=false:=by kernel_rfl
@[simp] theorem Ro:elOk env.P 262=true:=by kernel_rfl
@[simp] theorem S9:elZ env.P 262=1:=by kernel_rfl
@[simp] theorem Np:iO env.P 262=(.v (.bool false)):=by kernel_rfl
@[simp] theorem NS:aT env.P 264=(some 1):=by kernel_rfl
@[simp] theorem Qx:tagg env.P 264=(some false):=by kernel_rfl
@[simp] theorem NR:aT env.P 266=(some 2):=by kernel_rfl
@[simp] theorem Qo:tarr env.P 266=none:=by kernel_rfl
@[simp] theorem NL:gb env.P 266=(some (.agg [(.v (.slice none 0 0)),(.v (.map none))])):=by kernel_rfl
@[simp] theorem MU:gN env.P 266=(some [(0,1),(1,1)]):=by kernel_rfl
@[simp] theorem Ks:aw env.P 266 0=(some (0,1)):=by kernel_rfl
@[simp] theorem Kp:aw env.P 266 1=(some (1,1)):=by kernel_rfl
@[simp] theorem NQ:aT env.P 277=(some 1):=by kernel_rfl
@[simp] theorem Qw:tagg env.P 277=(some false):=by kernel_rfl
@[simp] theorem N6:eE env.P 277=(some 29):=by kernel_rfl
@[simp] theorem Qn:tarr env.P 277=none:=by kernel_rfl
@[simp] theorem Pa:isStr env.P 277=false:=by kernel_rfl
@[simp] theorem NK:gb env.P 277=(some (.v (.slice none 0 0))):=by kernel_rfl
@[simp] theorem Tt:apT env.P 277=true:=by kernel_rfl
@[simp] theorem Rm:elOk env.P 277=true:=by kernel_rfl
@[simp] theorem S8:elZ env.P 277=2:=by kernel_rfl
@[simp] theorem Rr:elBy env.P 277=8:=by kernel_rfl
@[simp] theorem No:iO env.P 277=(.agg [(a8 0),(a32 0)]):=by kernel_rfl
@[simp] theorem N5:eE env.P 279=(some 170):=by kernel_rfl
@[simp] theorem Qm:tarr env.P 279=none:=by kernel_rfl
@[simp] theorem O9:isStr env.P 279=false:=by kernel_rfl
@[simp] theorem Rl:elOk env.P 279=true:=by kernel_rfl
@[simp] theorem S7:elZ env.P 279=1:=by kernel_rfl
@[simp] theorem Nn:iO env.P 279=(.v (.slice none 0 0)):=by kernel_rfl
end Go.Proofs.YtmkmimgokagimaaGreat
