/-
  The facts on the program's types, computed. No statement of a seat is proved here.
-/
import Derived.Test.YtdbiffjdomokfaaGreatRows
import Derived.Test.YtdbiffjdomokfaaGreatAbsRules
import Derived.Test.YtdbiffjdomokfaaGreatMAuSpec
set_option linter.unusedVariables false
set_option maxRecDepth 1000000
namespace Go.Proofs.YtdbiffjdomokfaaGreat
open Go.Ab
def fns:List FuncId:=[3,4,5,6,7,8,9,10,11,12,13,14,15,16,17,18,19,20,21,22,24,25,26,27,28,29,30,31,32,33,34,35,36,37,38,39,40,41,42,43,44,45,46,47,48,49,50,51,52,53,54,55,56,57,58,59,60,61,62,63,64,65,66,67,68,69,70,71,72,73,74,75,76,77,78,79,80,81,82,83,84,85,86,87,88,89,90,91,92,93,94,95,96,97,98,99,100,101,102,103,104,105,106,107,108,109,110,111,112,113,114,115,116,117,118,119,120,121,122,123,124,125,126,127,128,129,130,131,132,133,134,135,136,137,138,139,140,141,142,143,144,145,146,147,148,149,150,151,152,153,154,155,156,157,158,159,160,161,162,163,164,165,166,167,168,169,170,171,172,173,174,175,176]
def dc:List FuncId:=[43,42,98,95,69,70,120,138]
def kS:List FuncId:=[23,32,34,35,71,72,73,74,75,76,77,79,81,114,116,133,134,135,154,156,157,158,166,167,175]
def FE:List (FuncId × List AV × AV):=[]
noncomputable def env:Env:=Bk Tryz.prog fns dc kS (KE [(19,13,18),(16,1,77777),(55,1,88888),(35,73,88889),(55,76,88889),(7,5,66666),(20,42,88889)]) (wD [(15,12,0,[(20,23)]),(52,10,0,[(56,58)]),(25,34,4,[(44,43)]),(6,21,0,[(16,4),(20,4),(17,4)]),(58,23,0,[(71,61),(4,61),(5,61),(5,68)]),(7,6,0,[(3,5)]),(64,16,17,[(5,66),(66,7)]),(143,16,25,[(5,145),(145,7),(145,9)])]) (P8 [(19,13,18),(16,1,77777),(55,1,88888),(35,73,88889),(55,76,88889),(7,5,66666),(20,42,88889)]) FE (fun _=>false) (fun _=>none) wG Bc
theorem Ra:L3 env fns=true:=by kernel_rfl
@[simp] theorem Ye{f:FuncId}(h:kS.contains f=false):(env.mode f == 2)=false:=by
 show((if dc.contains f then (if kS.contains f then 3 else 1) else if kS.contains f then 2 else 0) == 2)=false
 rw[h]
 split<;>rfl
@[simp] theorem Xc{f:FuncId}(h:kS.contains f=false):(env.mode f == 3)=false:=by
 show((if dc.contains f then (if kS.contains f then 3 else 1) else if kS.contains f then 2 else 0) == 3)=false
 rw[h]
 split<;>rfl
theorem UT{f:FuncId}(h:dc.contains f=false):tI (env.mode f)=false:=by
 show tI (if dc.contains f then (if kS.contains f then 3 else 1) else if kS.contains f then 2 else 0)=false
 rw[h]
 cases kS.contains f<;>rfl
@[simp] theorem Oe{f:FuncId}(h:dc.contains f=false)(x:AV)(H:ab)(y:AV):handed env f x H y↔view H.get depth x=some y:=J1 (UT h) x H y
theorem US{f:FuncId}(h:dc.contains f=true):tI (env.mode f)=true:=by
 show tI (if dc.contains f then (if kS.contains f then 3 else 1) else if kS.contains f then 2 else 0)=true
 rw[h]
 cases kS.contains f<;>rfl
@[simp] theorem Xj{f:FuncId}(h:dc.contains f=true)(x:AV)(H:ab)(y:AV):handed env f x H y↔(aG H.get depth x).Nodup∧dD H.get depth x=some y:=F4 (US h) x H y
noncomputable def jQ:Env:=Bk Tryz.prog [] [] [] (fun _=>false) (fun _=>[]) (fun _=>false) [] (fun _=>false) (fun _=>none) (fun _ _ _=>none) Bc
@[simp] noncomputable def Za(b:Bool)(h:ab)(n:Nat)(n2:Nat)(a:List AV):=bm env b (bj env) (bR env 0) h (Ref.mk 0 n (ab.gen h 0 n) 0) (some (AV.fn (Fn.func n2) [] [])) a
@[simp] noncomputable def Zb(h:ab)(n:Nat)(v:AV):=aj env.P (ab.get h) n (some v)
@[simp] noncomputable def Zc(h:ab)(n:Nat)(n2:Nat)(v:AV):=bn h (Ref.mk 0 n (ab.gen h 0 n) 0) (cE env.P (Ref.mk 0 n (ab.gen h 0 n) 0) n2 (some v))
@[simp] noncomputable def Zd(n:Nat)(v:AV)(n2:Nat):=aa env.P n (some v) n2
@[simp] noncomputable def Ze(n:Nat)(n2:Nat)(i:Int)(v:AV):=aE env.P .add n (Operand.tmp n2) (Operand.const (Value.int IntKind.i64 i)) (some v) (some (AV.v (Value.int IntKind.i64 i)))
@[simp] noncomputable def Zf(n:Nat)(n2:Nat)(i:Int)(v:AV):=aE env.P .neq n (Operand.tmp n2) (Operand.const (Value.int IntKind.i64 i)) (some v) (some (AV.v (Value.int IntKind.i64 i)))
@[simp] noncomputable def Zg(n:Nat)(n2:Nat)(i:Int)(v:AV):=aE env.P .eql n (Operand.tmp n2) (Operand.const (Value.int IntKind.i64 i)) (some v) (some (AV.v (Value.int IntKind.i64 i)))
@[simp] noncomputable def Zh(v:AV)(v2:AV):=bp (some v) (some v2) (some (AV.v (Value.bool false)))
@[simp] noncomputable def Zi(h:ab)(n:Nat)(n2:Nat):=bn h (Ref.mk 0 n (ab.gen h 0 n) 0) (bV env.P (Ref.mk 0 n (ab.gen h 0 n) 0) n2)
@[simp] noncomputable def Zj(h:ab)(n:Nat)(n2:Nat)(n3:Nat)(v:AV):=bn h (Ref.mk (n+1) n2 (ab.gen h (n+1) n2) 0) (cE env.P (Ref.mk (n+1) n2 (ab.gen h (n+1) n2) 0) n3 (some v))
@[simp] noncomputable def Zk(h:ab)(n:Nat)(n2:Nat)(v:AV):=aM env.P false (ab.get h) (Ref.mk 0 n (ab.gen h 0 n) 0) .len #[n2] [v]
@[simp] noncomputable def Zl(h:ab)(n:Nat)(v:AV)(v2:AV):=aV env.P h n (some v) (some v2)
@[simp] noncomputable def Zm(n:Nat)(n2:Nat)(i:Int)(v:AV):=aE env.P .geq n (Operand.tmp n2) (Operand.const (Value.int IntKind.i64 i)) (some v) (some (AV.v (Value.int IntKind.i64 i)))
@[simp] noncomputable def Zn(v:AV)(v2:AV):=bp (some v) (some (AV.v (Value.bool true))) (some v2)
@[simp] noncomputable def Zo(n:Nat)(n2:Nat)(n3:Nat)(v:AV)(v2:AV):=aE env.P .lss n (Operand.tmp n2) (Operand.tmp n3) (some v) (some v2)
@[simp] noncomputable def Zp(n:Nat)(n2:Nat)(n3:Nat)(v:AV)(v2:AV):=aE env.P .eql n (Operand.tmp n2) (Operand.tmp n3) (some v) (some v2)
@[simp] noncomputable def Zq(h:ab)(n:Nat)(n2:Nat)(n3:Nat):=bn h (Ref.mk (n+1) n2 (ab.gen h (n+1) n2) 0) (bV env.P (Ref.mk (n+1) n2 (ab.gen h (n+1) n2) 0) n3)
@[simp] noncomputable def Zr(h:ab)(n:Nat)(n2:Nat)(n3:Nat)(v:AV)(v2:AV):=cR env.P true h (Ref.mk 0 n (ab.gen h 0 n) 0) (some n2) (some n3) v v2
@[simp] noncomputable def Zs(n:Nat)(n2:Nat)(i:Int)(v:AV):=aE env.P .lss n (Operand.tmp n2) (Operand.const (Value.int IntKind.i64 i)) (some v) (some (AV.v (Value.int IntKind.i64 i)))
@[simp] noncomputable def Zt(n:Nat)(n2:Nat)(i:Int)(v:AV):=aE env.P .gtr n (Operand.tmp n2) (Operand.const (Value.int IntKind.i64 i)) (some v) (some (AV.v (Value.int IntKind.i64 i)))
@[simp] noncomputable def Zu(n:Nat)(n2:Nat)(i:Int)(v:AV):=aE env.P .sub n (Operand.tmp n2) (Operand.const (Value.int IntKind.i64 i)) (some v) (some (AV.v (Value.int IntKind.i64 i)))
@[simp] noncomputable def Zv(h:ab)(n:Nat)(n2:Nat)(n3:Nat)(v:AV):=cM env.P (ab.get h) (Ref.mk 0 n (ab.gen h 0 n) 0) n2 n3 (some v)
@[simp] noncomputable def Zw(h:ab)(n:Nat)(v:AV)(v2:AV):=aQ env.P (ab.get h) n (some v) (some v2)
@[simp] noncomputable def Zx(h:ab)(n:Nat)(n2:Nat)(n3:Nat)(n4:Nat)(v:AV):=eO env.P false true h (Ref.mk 0 n (ab.gen h 0 n) 0) n2 n3 (some [(n4,v)])
@[simp] noncomputable def Zy(n:Nat)(n2:Nat)(i:Int)(v:AV):=aE env.P .leq n (Operand.tmp n2) (Operand.const (Value.int IntKind.i64 i)) (some v) (some (AV.v (Value.int IntKind.i64 i)))
@[simp] noncomputable def Zz(h:ab)(n:Nat)(v:AV)(i:Int):=aQ env.P (ab.get h) n (some v) (some (AV.v (Value.int IntKind.i64 i)))
@[simp] noncomputable def ZA(h:ab)(n:Nat)(n2:Nat)(n3:Nat)(v:AV):=aM env.P false (ab.get h) (Ref.mk (n+1) n2 (ab.gen h (n+1) n2) 0) .len #[n3] [v]
@[simp] noncomputable def ZB(v:AV)(n:Nat):=aH (some v) n
@[simp] noncomputable def ZC(n:Nat)(n2:Nat)(n3:Nat)(v:AV)(v2:AV):=aE env.P .add n (Operand.tmp n2) (Operand.tmp n3) (some v) (some v2)
@[simp] noncomputable def ZD(n:Nat)(n2:Nat)(n3:Nat)(v:AV)(v2:AV):=aE env.P .neq n (Operand.tmp n2) (Operand.tmp n3) (some v) (some v2)
@[simp] noncomputable def ZE(h:ab)(n:Nat)(v:AV)(v2:AV):=bm env true (bj env) (bR env 0) h (Ref.mk 0 n (ab.gen h 0 n) 0) (some v) [v2]
@[simp] noncomputable def ZF(n:Nat)(n2:Nat)(n3:Nat)(v:AV)(v2:AV):=aE env.P .sub n (Operand.tmp n2) (Operand.tmp n3) (some v) (some v2)
@[simp] noncomputable def ZG(h:ab)(n:Nat)(v:AV)(v2:AV):=eE env.P (ab.get h) n (some v) (some none) (oi v2) (some none)
@[simp] noncomputable def ZH(v:AV):=wP env.P .not (some v)
@[simp] noncomputable def ZI(h:ab)(n:Nat)(v:AV)(v2:AV):=cQ env.P (ab.get h) n (some v) (some v2) false
@[simp] noncomputable def ZJ(n:Nat)(n2:Nat)(v:AV):=aE env.P .eql n (Operand.tmp n2) (.const (.int .u8 1)) (some v) (some (a8 1))
@[simp] noncomputable def ZK(n:Nat)(h:ab)(n2:Nat)(v:AV):=bm env true (bj env) (bR env (n+1)) h (Ref.mk (n+1) n2 (ab.gen h (n+1) n2) 0) (some (.fn (.func 130) [] [])) [v]
@[simp] noncomputable def ZL(h:ab)(n:Nat)(n2:Nat):=bn h (Ref.mk (n+1) n2 (ab.gen h (n+1) n2) 0) (some (.mp (Ref.mk (n+1) n2 (ab.gen h (n+1) n2) 0),[bq []]))
@[simp] noncomputable def ZM(h:ab)(n:Nat)(n2:Nat)(n3:Nat)(n4:Nat)(v:AV)(n5:Nat)(v2:AV)(n6:Nat)(v3:AV):=eO env.P false true h (Ref.mk 0 n (ab.gen h 0 n) 0) n2 n3 (some [(n4,v),(n5,v2),(n6,v3)])
@[simp] noncomputable def ZN(v:AV):=cJ (some v)
@[simp] noncomputable def ZO(n:Nat)(n2:Nat)(v:AV):=aE env.P .eql n (Operand.tmp n2) (.const (.int .u8 3)) (some v) (some (a8 3))
@[simp] noncomputable def ZP(n:Nat)(n2:Nat)(v:AV):=aE env.P .eql n (Operand.tmp n2) (.const (.slice none 0 0)) (some v) (some (.v (.slice none 0 0)))
@[simp] noncomputable def ZQ(h:ab)(n:Nat)(n2:Nat)(n3:Nat)(n4:Nat)(v:AV)(v2:AV):=cR env.P true h (Ref.mk (n+1) n2 (ab.gen h (n+1) n2) 0) (some n3) (some n4) v v2
@[simp] noncomputable def ZR(n:Nat)(h:ab)(n2:Nat)(v:AV)(v2:AV)(v3:AV):=bm env true (bj env) (bR env (n+1)) h (Ref.mk (n+1) n2 (ab.gen h (n+1) n2) 0) (some v) [v2,v3]
@[simp] noncomputable def ZS(n:Nat)(h:ab)(n2:Nat)(v:AV)(v2:AV):=bm env true (bj env) (bR env (n+1)) h (Ref.mk (n+1) n2 (ab.gen h (n+1) n2) 0) (some v) [v2]
@[simp] noncomputable def ZT(n:Nat)(n2:Nat)(v:AV):=aE env.P .shr n (Operand.tmp n2) (.const (.int .u64 8)) (some v) (some (.v (.int .u64 8)))
@[simp] noncomputable def ZU(h:ab)(n:Nat)(n2:Nat)(v:AV):=aM env.P false (ab.get h) (Ref.mk 0 n (ab.gen h 0 n) 0) .cap #[n2] [v]
@[simp] noncomputable def ZV(n:Nat):=cb env.P n (some [])
@[simp] noncomputable def ZW(n:Nat)(i:Int)(n2:Nat)(v:AV):=aE env.P .mul n (Operand.const (Value.int IntKind.i64 i)) (Operand.tmp n2) (some (AV.v (Value.int IntKind.i64 i))) (some v)
@[simp] noncomputable def ZX(n:Nat)(n2:Nat)(i:Int)(v:AV):=aE jQ.P .add n (Operand.tmp n2) (Operand.const (Value.int IntKind.i64 i)) (some v) (some (AV.v (Value.int IntKind.i64 i)))
@[simp] noncomputable def ZY(n:Nat)(h:ab)(n2:Nat)(v:AV)(v2:AV):=bm env false (bj env) (bR env (n+1)) h (Ref.mk (n+1) n2 (ab.gen h (n+1) n2) 0) (some (.fn (.func 92) [] [])) [v,v2]
@[simp] noncomputable def ZZ(n:Nat)(h:ab)(n2:Nat)(v:AV)(v2:AV):=bm env false (bj env) (bR env (n+1)) h (Ref.mk (n+1) n2 (ab.gen h (n+1) n2) 0) (some (.fn (.func 80) [] [])) [v,v2]
@[simp] noncomputable def Z0(n:Nat)(h:ab)(n2:Nat)(v:AV)(v2:AV)(v3:AV):=bm env true (bj env) (bR env (n+1)) h (Ref.mk (n+1) n2 (ab.gen h (n+1) n2) 0) (some (.fn (.func 154) [] [])) [v,v2,v3]
@[simp] noncomputable def Z1(n:Nat)(h:ab)(n2:Nat)(v:AV)(v2:AV):=bm env true (bj env) (bR env (n+1)) h (Ref.mk (n+1) n2 (ab.gen h (n+1) n2) 0) (some (.fn (.func 156) [] [])) [v,v2]
@[simp] noncomputable def Z2(n:Nat)(h:ab)(n2:Nat)(v:AV)(v2:AV):=bm env true (bj env) (bR env (n+1)) h (Ref.mk (n+1) n2 (ab.gen h (n+1) n2) 0) (some (.fn (.func 20) [] [])) [v,v2]
@[simp] noncomputable def Z3(v:AV):=jD (some v)
@[simp] noncomputable def Z4(n:Nat)(h:ab)(n2:Nat)(v:AV)(v2:AV):=bm env true (bj env) (bR env (n+1)) h (Ref.mk (n+1) n2 (ab.gen h (n+1) n2) 0) (some (.fn (.func 158) [] [])) [v,v2]
@[simp] noncomputable def Z5(n:Nat)(h:ab)(n2:Nat)(v:AV)(v2:AV):=bm env true (bj env) (bR env (n+1)) h (Ref.mk (n+1) n2 (ab.gen h (n+1) n2) 0) (some (.fn (.func 72) [] [])) [v,v2]
@[simp] noncomputable def Z6(n:Nat)(n2:Nat)(n3:Nat)(v:AV)(v2:AV):=aE env.P .geq n (Operand.tmp n2) (Operand.tmp n3) (some v) (some v2)
@[simp] noncomputable def Z7(h:ab)(n:Nat)(n2:Nat)(n3:Nat)(n4:Nat)(n5:Nat)(v:AV):=eO env.P true false h (Ref.mk (n+1) n2 (ab.gen h (n+1) n2) 0) n3 n4 (some [(n5,v)])
@[simp] noncomputable def Z8(n:Nat)(n2:Nat)(v:AV):=aE env.P .shr n (Operand.tmp n2) (.const (.int .u64 16)) (some v) (some (.v (.int .u64 16)))
@[simp] noncomputable def Z9(h:ab)(n:Nat)(n2:Nat)(n3:Nat):=eO env.P false true h (Ref.mk 0 n (ab.gen h 0 n) 0) n2 n3 (some [])
@[simp] noncomputable def Y3(n:Nat)(n2:Nat)(v:AV):=cb env.P n (some [(n2,v)])
@[simp] noncomputable def Y4(v:AV):=bp (some v) (some (AV.v (Value.bool true))) (some (AV.v (Value.bool false)))
@[simp] noncomputable def Y5(h:ab)(v:AV)(n:Nat):=da env.P h v n
@[simp] noncomputable def Y6(n:Nat)(v:AV)(n2:Nat):=ke env.P n (some v) n2
@[simp] noncomputable def Y7(h:ab)(v:AV)(v2:AV)(v3:AV):=cW h (some v) (some v2) (some v3)
@[simp] noncomputable def Y8(h:ab)(n:Nat)(v:AV)(v2:AV):=ei env.P h n (some v) (some v2)
@[simp] noncomputable def Y9(h:ab)(n:Nat)(v:AV):=aj jQ.P (ab.get h) n (some v)
@[simp] theorem Ym:jQ.P=env.P:=id rfl
@[simp] theorem We:aU env.P 3=(some 1):=by kernel_rfl
@[simp] theorem X0:dR env.P 3=(some false):=by kernel_rfl
@[simp] theorem Xh:lb env.P 3=(some 1):=by kernel_rfl
@[simp] theorem Xi:isInt env.P 3=true:=by kernel_rfl
@[simp] theorem SN:intKind env.P 3=(some .i64):=by kernel_rfl
@[simp] theorem XU:(env.P.underlying 3).isNone=false:=by kernel_rfl
@[simp] theorem Wd:aU env.P 4=(some 1):=by kernel_rfl
@[simp] theorem XZ:dR env.P 4=(some false):=by kernel_rfl
@[simp] theorem Xg:lb env.P 4=(some 0):=by kernel_rfl
@[simp] theorem Ve:isBool env.P 4=true:=by kernel_rfl
@[simp] theorem Wc:aU env.P 5=(some 1):=by kernel_rfl
@[simp] theorem XY:dR env.P 5=(some false):=by kernel_rfl
@[simp] theorem Xf:lb env.P 5=(some 1):=by kernel_rfl
@[simp] theorem SM:intKind env.P 5=(some .u8):=by kernel_rfl
@[simp] theorem TW:aU env.P 21=(some 1):=by kernel_rfl
@[simp] theorem WV:dR env.P 21=(some false):=by kernel_rfl
@[simp] theorem Wa:(env.P.underlying 21).isNone=false:=by kernel_rfl
@[simp] theorem TV:aU env.P 22=(some 4):=by kernel_rfl
@[simp] theorem WU:dR env.P 22=(some true):=by kernel_rfl
@[simp] theorem T5:dU env.P 22=none:=by kernel_rfl
@[simp] theorem Wx:gZ env.P 22=(some (4,3)):=by kernel_rfl
@[simp] theorem Tx:ej env.P 22=(some (.agg [(.v (.int .i64 0)),(.v (.int .i64 0)),(.v (.int .i64 0)),(.v (.int .i64 0))])):=by kernel_rfl
@[simp] theorem TU:aU env.P 23=(some 1):=by kernel_rfl
@[simp] theorem WT:dR env.P 23=(some false):=by kernel_rfl
@[simp] theorem U5:lb env.P 23=(some 1):=by kernel_rfl
@[simp] theorem V9:(env.P.underlying 23).isNone=false:=by kernel_rfl
@[simp] theorem TT:aU env.P 26=(some 1):=by kernel_rfl
@[simp] theorem WS:dR env.P 26=(some false):=by kernel_rfl
@[simp] theorem T4:dU env.P 26=(some 52):=by kernel_rfl
@[simp] theorem Ww:gZ env.P 26=none:=by kernel_rfl
@[simp] theorem Vd:isStr env.P 26=false:=by kernel_rfl
@[simp] theorem YK:BP env.P 26=true:=by kernel_rfl
@[simp] theorem XA:m4 env.P 26=true:=by kernel_rfl
@[simp] theorem Ys:kO env.P 26=3:=by kernel_rfl
@[simp] theorem XG:pD env.P 26=12:=by kernel_rfl
@[simp] theorem S6:ij env.P 26=(.agg [(a8 0),(aF 0),(.v (.bool false))]):=by kernel_rfl
@[simp] theorem TQ:aU env.P 27=(some 1):=by kernel_rfl
@[simp] theorem WR:dR env.P 27=(some false):=by kernel_rfl
@[simp] theorem T3:dU env.P 27=(some 76):=by kernel_rfl
@[simp] theorem Wv:gZ env.P 27=none:=by kernel_rfl
@[simp] theorem Vc:isStr env.P 27=false:=by kernel_rfl
@[simp] theorem YJ:BP env.P 27=true:=by kernel_rfl
@[simp] theorem Xz:m4 env.P 27=true:=by kernel_rfl
@[simp] theorem Yr:kO env.P 27=5:=by kernel_rfl
@[simp] theorem XF:pD env.P 27=32:=by kernel_rfl
@[simp] theorem S5:ij env.P 27=(.agg [(a8 0),(aF 0),(.v (.int .i64 0)),(.v (.int .i64 0)),(.v (.int .i64 0))]):=by kernel_rfl
@[simp] theorem TP:aU env.P 29=(some 3):=by kernel_rfl
@[simp] theorem WQ:dR env.P 29=(some true):=by kernel_rfl
@[simp] theorem Wu:gZ env.P 29=none:=by kernel_rfl
@[simp] theorem Tw:ej env.P 29=(some (.agg [(.v (.slice none 0 0)),(.v (.slice none 0 0)),(.v (.int .i64 0))])):=by kernel_rfl
@[simp] theorem Sz:fa env.P 29=(some [(0,1),(1,1),(2,1)]):=by kernel_rfl
@[simp] theorem PJ:aK env.P 29 0=(some (0,1)):=by kernel_rfl
@[simp] theorem Py:aK env.P 29 1=(some (1,1)):=by kernel_rfl
@[simp] theorem Pm:aK env.P 29 2=(some (2,1)):=by kernel_rfl
@[simp] theorem TO:aU env.P 31=(some 1):=by kernel_rfl
@[simp] theorem WO:dR env.P 31=(some false):=by kernel_rfl
@[simp] theorem T2:dU env.P 31=(some 56):=by kernel_rfl
@[simp] theorem Wt:gZ env.P 31=none:=by kernel_rfl
@[simp] theorem Vb:isStr env.P 31=false:=by kernel_rfl
@[simp] theorem YI:BP env.P 31=true:=by kernel_rfl
@[simp] theorem Xy:m4 env.P 31=true:=by kernel_rfl
@[simp] theorem Yq:kO env.P 31=24:=by kernel_rfl
@[simp] theorem XE:pD env.P 31=160:=by kernel_rfl
@[simp] theorem S4:ij env.P 31=(.agg [(a8 0),(.v (.int .i64 0)),(a8 0),(a8 0),(aF 0),(a8 0),(.v (.int .i64 0)),(a8 0),(aF 0),(a8 0),(.v (.int .i64 0)),(.v (.int .i64 0)),(a8 0),(aF 0),(a8 0),(.v (.int .i64 0)),(a8 0),(aF 0),(.v (.slice none 0 0)),(.v (.int .i64 0)),(.v (.int .i64 0)),(a8 0),(aF 0),(.v (.bool false))]):=by kernel_rfl
@[simp] theorem TN:aU env.P 33=(some 1):=by kernel_rfl
@[simp] theorem WN:dR env.P 33=(some false):=by kernel_rfl
@[simp] theorem U4:lb env.P 33=(some 1):=by kernel_rfl
@[simp] theorem V8:(env.P.underlying 33).isNone=false:=by kernel_rfl
@[simp] theorem TM:aU env.P 35=(some 2):=by kernel_rfl
@[simp] theorem WM:dR env.P 35=(some true):=by kernel_rfl
@[simp] theorem Ws:gZ env.P 35=none:=by kernel_rfl
@[simp] theorem Tv:ej env.P 35=(some (.agg [(a8 0),(aF 0)])):=by kernel_rfl
@[simp] theorem U3:lb env.P 35=none:=by kernel_rfl
@[simp] theorem Xp:zD env.P 35=true:=by kernel_rfl
@[simp] theorem PT:jY env.P 35=(some [5,33]):=by kernel_rfl
@[simp] theorem Sy:fa env.P 35=(some [(0,1),(1,1)]):=by kernel_rfl
@[simp] theorem PI:aK env.P 35 0=(some (0,1)):=by kernel_rfl
@[simp] theorem Px:aK env.P 35 1=(some (1,1)):=by kernel_rfl
@[simp] theorem TZ:dU env.P 36=(some 67):=by kernel_rfl
@[simp] theorem Wr:gZ env.P 36=none:=by kernel_rfl
@[simp] theorem Va:isStr env.P 36=false:=by kernel_rfl
@[simp] theorem YH:BP env.P 36=true:=by kernel_rfl
@[simp] theorem Xx:m4 env.P 36=true:=by kernel_rfl
@[simp] theorem Yp:kO env.P 36=5:=by kernel_rfl
@[simp] theorem XD:pD env.P 36=32:=by kernel_rfl
@[simp] theorem S3:ij env.P 36=(.agg [(a8 0),(aF 0),(a8 0),(.v (.int .i64 0)),(.v (.int .i64 0))]):=by kernel_rfl
@[simp] theorem TL:aU env.P 40=(some 3):=by kernel_rfl
@[simp] theorem WL:dR env.P 40=(some true):=by kernel_rfl
@[simp] theorem Wq:gZ env.P 40=none:=by kernel_rfl
@[simp] theorem Tu:ej env.P 40=(some (.agg [(a8 0),(aF 0),(a8 0)])):=by kernel_rfl
@[simp] theorem U2:lb env.P 40=none:=by kernel_rfl
@[simp] theorem Xo:zD env.P 40=true:=by kernel_rfl
@[simp] theorem PS:jY env.P 40=(some [35,5]):=by kernel_rfl
@[simp] theorem Sx:fa env.P 40=(some [(0,2),(2,1)]):=by kernel_rfl
@[simp] theorem OV:lx env.P 40 0=(some (0,35)):=by kernel_rfl
@[simp] theorem PH:aK env.P 40 0=(some (0,2)):=by kernel_rfl
@[simp] theorem Pw:aK env.P 40 1=(some (2,1)):=by kernel_rfl
@[simp] theorem TK:aU env.P 45=(some 4):=by kernel_rfl
@[simp] theorem WK:dR env.P 45=(some true):=by kernel_rfl
@[simp] theorem Wp:gZ env.P 45=none:=by kernel_rfl
@[simp] theorem Tt:ej env.P 45=(some (.agg [(a8 0),(aF 0),(a8 0),(.v (.int .i64 0))])):=by kernel_rfl
@[simp] theorem U1:lb env.P 45=none:=by kernel_rfl
@[simp] theorem Xn:zD env.P 45=true:=by kernel_rfl
@[simp] theorem PR:jY env.P 45=(some [40,3]):=by kernel_rfl
@[simp] theorem Sw:fa env.P 45=(some [(0,3),(3,1)]):=by kernel_rfl
@[simp] theorem PG:aK env.P 45 0=(some (0,3)):=by kernel_rfl
@[simp] theorem Pv:aK env.P 45 1=(some (3,1)):=by kernel_rfl
@[simp] theorem TJ:aU env.P 47=(some 5):=by kernel_rfl
@[simp] theorem WJ:dR env.P 47=(some true):=by kernel_rfl
@[simp] theorem Wo:gZ env.P 47=none:=by kernel_rfl
@[simp] theorem Ts:ej env.P 47=(some (.agg [(a8 0),(aF 0),(a8 0),(.v (.int .i64 0)),(.v (.int .i64 0))])):=by kernel_rfl
@[simp] theorem U0:lb env.P 47=none:=by kernel_rfl
@[simp] theorem Xm:zD env.P 47=true:=by kernel_rfl
@[simp] theorem PQ:jY env.P 47=(some [45,3]):=by kernel_rfl
@[simp] theorem Sv:fa env.P 47=(some [(0,4),(4,1)]):=by kernel_rfl
@[simp] theorem PF:aK env.P 47 0=(some (0,4)):=by kernel_rfl
@[simp] theorem Pu:aK env.P 47 1=(some (4,1)):=by kernel_rfl
@[simp] theorem TI:aU env.P 48=(some 1):=by kernel_rfl
@[simp] theorem WI:dR env.P 48=(some false):=by kernel_rfl
@[simp] theorem TY:dU env.P 48=(some 21):=by kernel_rfl
@[simp] theorem Wn:gZ env.P 48=none:=by kernel_rfl
@[simp] theorem U9:isStr env.P 48=false:=by kernel_rfl
@[simp] theorem YG:BP env.P 48=true:=by kernel_rfl
@[simp] theorem Xw:m4 env.P 48=true:=by kernel_rfl
@[simp] theorem Yo:kO env.P 48=1:=by kernel_rfl
@[simp] theorem XC:pD env.P 48=4:=by kernel_rfl
@[simp] theorem S2:ij env.P 48=(.v (.int .i32 0)):=by kernel_rfl
@[simp] theorem TH:aU env.P 50=(some 17):=by kernel_rfl
@[simp] theorem WH:dR env.P 50=(some true):=by kernel_rfl
@[simp] theorem Wm:gZ env.P 50=none:=by kernel_rfl
@[simp] theorem Tr:ej env.P 50=(some (.agg [(a8 0),(a8 0),(aF 0),(a8 0),(.v (.int .i64 0)),(a8 0),(aF 0),(a8 0),(.v (.int .i64 0)),(.v (.int .i64 0)),(a8 0),(aF 0),(a8 0),(.v (.int .i64 0)),(a8 0),(aF 0),(.v (.slice none 0 0))])):=by kernel_rfl
@[simp] theorem Su:fa env.P 50=(some [(0,1),(1,3),(4,1),(5,5),(10,4),(14,2),(16,1)]):=by kernel_rfl
@[simp] theorem PE:aK env.P 50 0=(some (0,1)):=by kernel_rfl
@[simp] theorem Pt:aK env.P 50 1=(some (1,3)):=by kernel_rfl
@[simp] theorem Pl:aK env.P 50 2=(some (4,1)):=by kernel_rfl
@[simp] theorem Pf:aK env.P 50 3=(some (5,5)):=by kernel_rfl
@[simp] theorem Pb:aK env.P 50 4=(some (10,4)):=by kernel_rfl
@[simp] theorem O8:aK env.P 50 5=(some (14,2)):=by kernel_rfl
@[simp] theorem O6:aK env.P 50 6=(some (16,1)):=by kernel_rfl
@[simp] theorem TG:aU env.P 52=(some 3):=by kernel_rfl
@[simp] theorem WG:dR env.P 52=(some true):=by kernel_rfl
@[simp] theorem Wl:gZ env.P 52=none:=by kernel_rfl
@[simp] theorem Tq:ej env.P 52=(some (.agg [(a8 0),(aF 0),(.v (.bool false))])):=by kernel_rfl
@[simp] theorem UZ:lb env.P 52=none:=by kernel_rfl
@[simp] theorem PO:jY env.P 52=(some [35,4]):=by kernel_rfl
@[simp] theorem Ss:fa env.P 52=(some [(0,2),(2,1)]):=by kernel_rfl
@[simp] theorem PD:aK env.P 52 0=(some (0,2)):=by kernel_rfl
@[simp] theorem Ps:aK env.P 52 1=(some (2,1)):=by kernel_rfl
@[simp] theorem TF:aU env.P 54=(some 4):=by kernel_rfl
@[simp] theorem WE:dR env.P 54=(some true):=by kernel_rfl
@[simp] theorem UY:lb env.P 54=none:=by kernel_rfl
@[simp] theorem Xl:zD env.P 54=true:=by kernel_rfl
@[simp] theorem PN:jY env.P 54=(some [3,52]):=by kernel_rfl
@[simp] theorem PC:aK env.P 54 0=(some (0,1)):=by kernel_rfl
@[simp] theorem Pr:aK env.P 54 1=(some (1,3)):=by kernel_rfl
@[simp] theorem TE:aU env.P 56=(some 24):=by kernel_rfl
@[simp] theorem WD:dR env.P 56=(some true):=by kernel_rfl
@[simp] theorem Wk:gZ env.P 56=none:=by kernel_rfl
@[simp] theorem Tp:ej env.P 56=(some (.agg [(a8 0),(.v (.int .i64 0)),(a8 0),(a8 0),(aF 0),(a8 0),(.v (.int .i64 0)),(a8 0),(aF 0),(a8 0),(.v (.int .i64 0)),(.v (.int .i64 0)),(a8 0),(aF 0),(a8 0),(.v (.int .i64 0)),(a8 0),(aF 0),(.v (.slice none 0 0)),(.v (.int .i64 0)),(.v (.int .i64 0)),(a8 0),(aF 0),(.v (.bool false))])):=by kernel_rfl
@[simp] theorem Sr:fa env.P 56=(some [(0,1),(1,1),(2,17),(19,1),(20,4)]):=by kernel_rfl
@[simp] theorem PB:aK env.P 56 0=(some (0,1)):=by kernel_rfl
@[simp] theorem Pq:aK env.P 56 1=(some (1,1)):=by kernel_rfl
@[simp] theorem Pk:aK env.P 56 2=(some (2,17)):=by kernel_rfl
@[simp] theorem Pe:aK env.P 56 3=(some (19,1)):=by kernel_rfl
@[simp] theorem Pa:aK env.P 56 4=(some (20,4)):=by kernel_rfl
@[simp] theorem TD:aU env.P 67=(some 5):=by kernel_rfl
@[simp] theorem WC:dR env.P 67=(some true):=by kernel_rfl
@[simp] theorem Wj:gZ env.P 67=none:=by kernel_rfl
@[simp] theorem To:ej env.P 67=(some (.agg [(a8 0),(aF 0),(a8 0),(.v (.int .i64 0)),(.v (.int .i64 0))])):=by kernel_rfl
@[simp] theorem UX:lb env.P 67=none:=by kernel_rfl
@[simp] theorem PM:jY env.P 67=(some [40,3,23]):=by kernel_rfl
@[simp] theorem Sq:fa env.P 67=(some [(0,3),(3,1),(4,1)]):=by kernel_rfl
@[simp] theorem Pp:aK env.P 67 1=(some (3,1)):=by kernel_rfl
@[simp] theorem Pj:aK env.P 67 2=(some (4,1)):=by kernel_rfl
@[simp] theorem TC:aU env.P 76=(some 5):=by kernel_rfl
@[simp] theorem WB:dR env.P 76=(some true):=by kernel_rfl
@[simp] theorem Wi:gZ env.P 76=none:=by kernel_rfl
@[simp] theorem Tn:ej env.P 76=(some (.agg [(a8 0),(aF 0),(.v (.int .i64 0)),(.v (.int .i64 0)),(.v (.int .i64 0))])):=by kernel_rfl
@[simp] theorem Sp:fa env.P 76=(some [(0,2),(2,1),(3,1),(4,1)]):=by kernel_rfl
@[simp] theorem PA:aK env.P 76 0=(some (0,2)):=by kernel_rfl
@[simp] theorem Po:aK env.P 76 1=(some (2,1)):=by kernel_rfl
@[simp] theorem Ph:aK env.P 76 2=(some (3,1)):=by kernel_rfl
@[simp] theorem OU:lx env.P 76 3=(some (4,3)):=by kernel_rfl
@[simp] theorem Pd:aK env.P 76 3=(some (4,1)):=by kernel_rfl
@[simp] theorem TB:aU env.P 88=(some 1):=by kernel_rfl
@[simp] theorem WA:dR env.P 88=(some false):=by kernel_rfl
@[simp] theorem TA:aU env.P 89=(some 1):=by kernel_rfl
@[simp] theorem Wz:dR env.P 89=(some false):=by kernel_rfl
@[simp] theorem Tz:aU env.P 90=(some 1):=by kernel_rfl
@[simp] theorem Wy:dR env.P 90=(some false):=by kernel_rfl
@[simp] theorem TX:dU env.P 90=(some 50):=by kernel_rfl
@[simp] theorem Wh:gZ env.P 90=none:=by kernel_rfl
@[simp] theorem U8:isStr env.P 90=false:=by kernel_rfl
@[simp] theorem YF:BP env.P 90=true:=by kernel_rfl
@[simp] theorem Xv:m4 env.P 90=true:=by kernel_rfl
@[simp] theorem Yn:kO env.P 90=17:=by kernel_rfl
@[simp] theorem XB:pD env.P 90=112:=by kernel_rfl
@[simp] theorem S1:ij env.P 90=(.agg [(a8 0),(a8 0),(aF 0),(a8 0),(.v (.int .i64 0)),(a8 0),(aF 0),(a8 0),(.v (.int .i64 0)),(.v (.int .i64 0)),(a8 0),(aF 0),(a8 0),(.v (.int .i64 0)),(a8 0),(aF 0),(.v (.slice none 0 0))]):=by kernel_rfl
@[simp] theorem Ty:aU env.P 92=(some 10):=by kernel_rfl
@[simp] theorem Wg:gZ env.P 92=none:=by kernel_rfl
@[simp] theorem Tm:ej env.P 92=(some (.agg [(.v (.slice none 0 0)),(.v (.slice none 0 0)),(.v (.int .i64 0)),(.v (.slice none 0 0)),(.v (.slice none 0 0)),(.v (.int .i64 0)),(.v (.slice none 0 0)),(.v (.map none)),(.v (.map none)),(.v (.slice none 0 0))])):=by kernel_rfl
@[simp] theorem So:fa env.P 92=(some [(0,3),(3,3),(6,1),(7,1),(8,1),(9,1)]):=by kernel_rfl
@[simp] theorem Pz:aK env.P 92 0=(some (0,3)):=by kernel_rfl
@[simp] theorem Pn:aK env.P 92 1=(some (3,3)):=by kernel_rfl
@[simp] theorem Pg:aK env.P 92 2=(some (6,1)):=by kernel_rfl
@[simp] theorem Pc:aK env.P 92 3=(some (7,1)):=by kernel_rfl
@[simp] theorem O9:aK env.P 92 4=(some (8,1)):=by kernel_rfl
@[simp] theorem O7:aK env.P 92 5=(some (9,1)):=by kernel_rfl
@[simp] theorem R3:aU env.P 105=(some 1):=by kernel_rfl
@[simp] theorem Uq:dR env.P 105=(some false):=by kernel_rfl
@[simp] theorem R2:aU env.P 106=(some 1):=by kernel_rfl
@[simp] theorem Up:dR env.P 106=(some false):=by kernel_rfl
@[simp] theorem Nq:lx env.P 108 0=(some (0,105)):=by kernel_rfl
@[simp] theorem Nn:lx env.P 108 1=(some (1,106)):=by kernel_rfl
@[simp] theorem R1:aU env.P 112=(some 1):=by kernel_rfl
@[simp] theorem Uo:dR env.P 112=(some false):=by kernel_rfl
@[simp] theorem R0:aU env.P 119=(some 3):=by kernel_rfl
@[simp] theorem Un:dR env.P 119=(some true):=by kernel_rfl
@[simp] theorem Uf:gZ env.P 119=none:=by kernel_rfl
@[simp] theorem RQ:ej env.P 119=(some (.agg [(.v (.bool false)),(.v (.int .i64 0)),(.v (.int .i64 0))])):=by kernel_rfl
@[simp] theorem Qy:fa env.P 119=(some [(0,1),(1,1),(2,1)]):=by kernel_rfl
@[simp] theorem Np:lx env.P 119 0=(some (0,4)):=by kernel_rfl
@[simp] theorem Ou:aK env.P 119 0=(some (0,1)):=by kernel_rfl
@[simp] theorem On:aK env.P 119 1=(some (1,1)):=by kernel_rfl
@[simp] theorem Oj:aK env.P 119 2=(some (2,1)):=by kernel_rfl
@[simp] theorem RZ:aU env.P 137=(some 1):=by kernel_rfl
@[simp] theorem Um:dR env.P 137=(some false):=by kernel_rfl
@[simp] theorem R8:dU env.P 137=(some 5):=by kernel_rfl
@[simp] theorem Ue:gZ env.P 137=none:=by kernel_rfl
@[simp] theorem SL:isStr env.P 137=false:=by kernel_rfl
@[simp] theorem XR:BP env.P 137=true:=by kernel_rfl
@[simp] theorem VG:m4 env.P 137=true:=by kernel_rfl
@[simp] theorem Xu:kO env.P 137=1:=by kernel_rfl
@[simp] theorem VJ:pD env.P 137=1:=by kernel_rfl
@[simp] theorem Rl:ij env.P 137=(a8 0):=by kernel_rfl
@[simp] theorem RY:aU env.P 140=(some 24):=by kernel_rfl
@[simp] theorem Ud:gZ env.P 140=none:=by kernel_rfl
@[simp] theorem RP:ej env.P 140=(some (.agg [(a8 0),(.v (.int .i64 0)),(a8 0),(a8 0),(aF 0),(a8 0),(.v (.int .i64 0)),(a8 0),(aF 0),(a8 0),(.v (.int .i64 0)),(.v (.int .i64 0)),(a8 0),(aF 0),(a8 0),(.v (.int .i64 0)),(a8 0),(aF 0),(.v (.slice none 0 0)),(.v (.int .i64 0)),(.v (.int .i64 0)),(a8 0),(aF 0),(.v (.bool false))])):=by kernel_rfl
@[simp] theorem Qx:fa env.P 140=(some [(0,24)]):=by kernel_rfl
@[simp] theorem Ot:aK env.P 140 0=(some (0,24)):=by kernel_rfl
@[simp] theorem R7:dU env.P 148=(some 4):=by kernel_rfl
@[simp] theorem Uc:gZ env.P 148=none:=by kernel_rfl
@[simp] theorem SK:isStr env.P 148=false:=by kernel_rfl
@[simp] theorem VF:m4 env.P 148=true:=by kernel_rfl
@[simp] theorem Xt:kO env.P 148=1:=by kernel_rfl
@[simp] theorem Rk:ij env.P 148=(.v (.bool false)):=by kernel_rfl
@[simp] theorem R6:dU env.P 166=(some 45):=by kernel_rfl
@[simp] theorem Ub:gZ env.P 166=none:=by kernel_rfl
@[simp] theorem SJ:isStr env.P 166=false:=by kernel_rfl
@[simp] theorem XQ:BP env.P 166=true:=by kernel_rfl
@[simp] theorem VE:m4 env.P 166=true:=by kernel_rfl
@[simp] theorem Xs:kO env.P 166=4:=by kernel_rfl
@[simp] theorem VI:pD env.P 166=24:=by kernel_rfl
@[simp] theorem Rj:ij env.P 166=(.agg [(a8 0),(aF 0),(a8 0),(.v (.int .i64 0))]):=by kernel_rfl
@[simp] theorem RX:aU env.P 171=(some 10):=by kernel_rfl
@[simp] theorem Ul:dR env.P 171=(some true):=by kernel_rfl
@[simp] theorem Ua:gZ env.P 171=none:=by kernel_rfl
@[simp] theorem RO:ej env.P 171=(some (.agg [(a8 0),(aF 0),(a8 0),(.v (.int .i64 0)),(.v (.int .i64 0)),(a8 0),(aF 0),(a8 0),(.v (.int .i64 0)),(.v (.slice none 0 0))])):=by kernel_rfl
@[simp] theorem Qw:fa env.P 171=(some [(0,5),(5,4),(9,1)]):=by kernel_rfl
@[simp] theorem Oq:aK env.P 171 0=(some (0,5)):=by kernel_rfl
@[simp] theorem Om:aK env.P 171 1=(some (5,4)):=by kernel_rfl
@[simp] theorem Oi:aK env.P 171 2=(some (9,1)):=by kernel_rfl
@[simp] theorem RW:aU env.P 178=(some 1):=by kernel_rfl
@[simp] theorem Uk:dR env.P 178=(some false):=by kernel_rfl
@[simp] theorem RV:aU env.P 179=(some 1):=by kernel_rfl
@[simp] theorem Uj:dR env.P 179=(some false):=by kernel_rfl
@[simp] theorem RU:aU env.P 193=(some 1):=by kernel_rfl
@[simp] theorem Ui:dR env.P 193=(some false):=by kernel_rfl
@[simp] theorem R5:dU env.P 193=(some 35):=by kernel_rfl
@[simp] theorem T9:gZ env.P 193=none:=by kernel_rfl
@[simp] theorem SI:isStr env.P 193=false:=by kernel_rfl
@[simp] theorem RN:ej env.P 193=(some (.v (.slice none 0 0))):=by kernel_rfl
@[simp] theorem XP:BP env.P 193=true:=by kernel_rfl
@[simp] theorem VD:m4 env.P 193=true:=by kernel_rfl
@[simp] theorem Xr:kO env.P 193=2:=by kernel_rfl
@[simp] theorem VH:pD env.P 193=8:=by kernel_rfl
@[simp] theorem Ri:ij env.P 193=(.agg [(a8 0),(aF 0)]):=by kernel_rfl
@[simp] theorem RT:aU env.P 196=(some 1):=by kernel_rfl
@[simp] theorem Uh:dR env.P 196=(some false):=by kernel_rfl
@[simp] theorem RS:aU env.P 198=(some 2):=by kernel_rfl
@[simp] theorem T8:gZ env.P 198=none:=by kernel_rfl
@[simp] theorem RM:ej env.P 198=(some (.agg [(.v (.slice none 0 0)),(.v (.map none))])):=by kernel_rfl
@[simp] theorem Qv:fa env.P 198=(some [(0,1),(1,1)]):=by kernel_rfl
@[simp] theorem Oo:aK env.P 198 0=(some (0,1)):=by kernel_rfl
@[simp] theorem Ol:aK env.P 198 1=(some (1,1)):=by kernel_rfl
@[simp] theorem RR:aU env.P 202=(some 2):=by kernel_rfl
@[simp] theorem Ug:dR env.P 202=(some true):=by kernel_rfl
@[simp] theorem No:lx env.P 202 0=(some (0,112)):=by kernel_rfl
@[simp] theorem T7:gZ env.P 203=(some (4,202)):=by kernel_rfl
@[simp] theorem R4:dU env.P 209=(some 137):=by kernel_rfl
@[simp] theorem T6:gZ env.P 209=none:=by kernel_rfl
@[simp] theorem SH:isStr env.P 209=false:=by kernel_rfl
@[simp] theorem VC:m4 env.P 209=true:=by kernel_rfl
@[simp] theorem Xq:kO env.P 209=1:=by kernel_rfl
@[simp] theorem Rh:ij env.P 209=(.v (.slice none 0 0)):=by kernel_rfl
end Go.Proofs.YtdbiffjdomokfaaGreat
