/-
  The facts on the program's types, computed. No statement of a seat is proved here.
-/
import Derived.Test.YtdbiffjdomokfaaGreatRows
import Derived.Test.YtdbiffjdomokfaaGreatAbsRules
import Derived.Test.YtdbiffjdomokfaaGreatMAuSpec
set_option linter.unusedVariables false
set_option maxRecDepth 1000000
namespace Go.Proofs.YtdbiffjdomokfaaGreat
open Go.Ab
def fns:List FuncId:=[3,4,5,6,7,8,9,10,11,12,13,14,15,16,17,18,19,20,21,22,24,25,26,27,28,29,30,31,32,33,34,35,36,37,38,39,40,41,42,43,44,45,46,47,48,49,50,51,52,53,54,55,56,57,58,59,60,61,62,63,64,65,66,67,68,69,70,71,72,73,74,75,76,77,78,79,80,81,82,83,84,85,86,87,88,89,90,91,92,93,94,95,96,97,98,99,100,101,102,103,104,105,106,107,108,109,110,111,112,113,114,115,116,117,118,119,120,121,122,123,124,125,126,127,128,129,130,131,132,133,134,135,136,137,138,139,140,141,142,143,144,145,146,147,148,149,150,151,152,153,154,155,156,157,158,159,160,161,162,163,164,165,166,167,168,169,170,171,172,173,174,175,176]
def cV:List FuncId:=[43,42,98,95,69,70,120,138]
def lj:List FuncId:=[23,32,34,35,71,72,73,74,75,76,77,79,81,114,116,133,134,135,154,156,157,158,166,167,175]
def Hl:List (FuncId × List AV × AV):=[]
noncomputable def env:Env:=CO Tryz.prog fns cV lj (MY [(19,13,18),(16,1,77777),(55,1,88888),(35,73,88889),(55,76,88889),(7,5,66666),(20,42,88889)]) (yd [(15,12,0,[(20,23)]),(52,10,0,[(56,58)]),(25,34,4,[(44,43)]),(6,21,0,[(16,4),(20,4),(17,4)]),(58,23,0,[(71,61),(4,61),(5,61),(5,68)]),(7,6,0,[(3,5)]),(64,16,17,[(5,66),(66,7)]),(143,16,25,[(5,145),(145,7),(145,9)])]) (SG [(19,13,18),(16,1,77777),(55,1,88888),(35,73,88889),(55,76,88889),(7,5,66666),(20,42,88889)]) Hl (fun _=>false) (fun _=>none) yi CD
theorem TQ:OB env fns=true:=by kernel_rfl
@[simp] theorem aaH{f:FuncId}(h:lj.contains f=false):(env.mode f == 2)=false:=by
 show((if cV.contains f then (if lj.contains f then 3 else 1) else if lj.contains f then 2 else 0) == 2)=false
 rw[h]
 split<;>rfl
@[simp] theorem ZG{f:FuncId}(h:lj.contains f=false):(env.mode f == 3)=false:=by
 show((if cV.contains f then (if lj.contains f then 3 else 1) else if lj.contains f then 2 else 0) == 3)=false
 rw[h]
 split<;>rfl
theorem Xt{f:FuncId}(h:cV.contains f=false):vj (env.mode f)=false:=by
 show vj (if cV.contains f then (if lj.contains f then 3 else 1) else if lj.contains f then 2 else 0)=false
 rw[h]
 cases lj.contains f<;>rfl
@[simp] theorem QT{f:FuncId}(h:cV.contains f=false)(x:AV)(H:ab)(y:AV):handed env f x H y↔view H.get depth x=some y:=L7 (Xt h) x H y
theorem Xs{f:FuncId}(h:cV.contains f=true):vj (env.mode f)=true:=by
 show vj (if cV.contains f then (if lj.contains f then 3 else 1) else if lj.contains f then 2 else 0)=true
 rw[h]
 cases lj.contains f<;>rfl
@[simp] theorem ZN{f:FuncId}(h:cV.contains f=true)(x:AV)(H:ab)(y:AV):handed env f x H y↔(aH H.get depth x).Nodup∧dN H.get depth x=some y:=HK (Xs h) x H y
noncomputable def kF:Env:=CO Tryz.prog [] [] [] (fun _=>false) (fun _=>[]) (fun _=>false) [] (fun _=>false) (fun _=>none) (fun _ _ _=>none) CD
@[simp] noncomputable def zaa(b:Bool)(h:ab)(n:Nat)(n2:Nat)(a:List AV):=bo env b (bj env) (bV env 0) h (Ref.mk 0 n (ab.gen h 0 n) 0) (some (AV.fn (Fn.func n2) [] [])) a
@[simp] noncomputable def zab(h:ab)(n:Nat)(v:AV):=aj env.P (ab.get h) n (some v)
@[simp] noncomputable def zac(h:ab)(n:Nat)(n2:Nat)(v:AV):=bm h (Ref.mk 0 n (ab.gen h 0 n) 0) (cD env.P (Ref.mk 0 n (ab.gen h 0 n) 0) n2 (some v))
@[simp] noncomputable def zad(n:Nat)(v:AV)(n2:Nat):=aa env.P n (some v) n2
@[simp] noncomputable def zae(n:Nat)(n2:Nat)(i:Int)(v:AV):=aE env.P .add n (Operand.tmp n2) (Operand.const (Value.int IntKind.i64 i)) (some v) (some (AV.v (Value.int IntKind.i64 i)))
@[simp] noncomputable def zaf(n:Nat)(n2:Nat)(i:Int)(v:AV):=aE env.P .neq n (Operand.tmp n2) (Operand.const (Value.int IntKind.i64 i)) (some v) (some (AV.v (Value.int IntKind.i64 i)))
@[simp] noncomputable def zag(v:AV)(v2:AV):=bq (some v) (some v2) (some (AV.v (Value.bool false)))
@[simp] noncomputable def zah(h:ab)(n:Nat)(n2:Nat)(v:AV):=aJ env.P false (ab.get h) (Ref.mk 0 n (ab.gen h 0 n) 0) .len #[n2] [v]
@[simp] noncomputable def zai(n:Nat)(n2:Nat)(i:Int)(v:AV):=aE env.P .eql n (Operand.tmp n2) (Operand.const (Value.int IntKind.i64 i)) (some v) (some (AV.v (Value.int IntKind.i64 i)))
@[simp] noncomputable def zaj(h:ab)(n:Nat)(n2:Nat):=bm h (Ref.mk 0 n (ab.gen h 0 n) 0) (bY env.P (Ref.mk 0 n (ab.gen h 0 n) 0) n2)
@[simp] noncomputable def zak(h:ab)(n:Nat)(n2:Nat)(n3:Nat)(v:AV):=bm h (Ref.mk (n+1) n2 (ab.gen h (n+1) n2) 0) (cD env.P (Ref.mk (n+1) n2 (ab.gen h (n+1) n2) 0) n3 (some v))
@[simp] noncomputable def zal(v:AV)(v2:AV):=bq (some v) (some (AV.v (Value.bool true))) (some v2)
@[simp] noncomputable def zam(h:ab)(n:Nat)(v:AV)(v2:AV):=aT env.P h n (some v) (some v2)
@[simp] noncomputable def zan(n:Nat)(n2:Nat)(i:Int)(v:AV):=aE env.P .geq n (Operand.tmp n2) (Operand.const (Value.int IntKind.i64 i)) (some v) (some (AV.v (Value.int IntKind.i64 i)))
@[simp] noncomputable def zao(n:Nat)(n2:Nat)(n3:Nat)(v:AV)(v2:AV):=aE env.P .lss n (Operand.tmp n2) (Operand.tmp n3) (some v) (some v2)
@[simp] noncomputable def zap(n:Nat)(n2:Nat)(n3:Nat)(v:AV)(v2:AV):=aE env.P .eql n (Operand.tmp n2) (Operand.tmp n3) (some v) (some v2)
@[simp] noncomputable def zaq(h:ab)(n:Nat)(n2:Nat)(n3:Nat):=bm h (Ref.mk (n+1) n2 (ab.gen h (n+1) n2) 0) (bY env.P (Ref.mk (n+1) n2 (ab.gen h (n+1) n2) 0) n3)
@[simp] noncomputable def zar(n:Nat)(n2:Nat)(i:Int)(v:AV):=aE env.P .gtr n (Operand.tmp n2) (Operand.const (Value.int IntKind.i64 i)) (some v) (some (AV.v (Value.int IntKind.i64 i)))
@[simp] noncomputable def zas(n:Nat)(n2:Nat)(i:Int)(v:AV):=aE env.P .lss n (Operand.tmp n2) (Operand.const (Value.int IntKind.i64 i)) (some v) (some (AV.v (Value.int IntKind.i64 i)))
@[simp] noncomputable def zat(h:ab)(n:Nat)(n2:Nat)(n3:Nat)(v:AV)(v2:AV):=cS env.P true h (Ref.mk 0 n (ab.gen h 0 n) 0) (some n2) (some n3) v v2
@[simp] noncomputable def zau(h:ab)(n:Nat)(v:AV)(v2:AV):=aM env.P (ab.get h) n (some v) (some v2)
@[simp] noncomputable def zav(n:Nat)(n2:Nat)(i:Int)(v:AV):=aE env.P .sub n (Operand.tmp n2) (Operand.const (Value.int IntKind.i64 i)) (some v) (some (AV.v (Value.int IntKind.i64 i)))
@[simp] noncomputable def zaw(h:ab)(n:Nat)(n2:Nat)(n3:Nat)(v:AV):=cW env.P (ab.get h) (Ref.mk 0 n (ab.gen h 0 n) 0) n2 n3 (some v)
@[simp] noncomputable def zax(h:ab)(n:Nat)(n2:Nat)(n3:Nat)(n4:Nat)(v:AV):=fa env.P false true h (Ref.mk 0 n (ab.gen h 0 n) 0) n2 n3 (some [(n4,v)])
@[simp] noncomputable def zay(n:Nat)(n2:Nat)(i:Int)(v:AV):=aE env.P .leq n (Operand.tmp n2) (Operand.const (Value.int IntKind.i64 i)) (some v) (some (AV.v (Value.int IntKind.i64 i)))
@[simp] noncomputable def zaz(n:Nat)(n2:Nat)(n3:Nat)(v:AV)(v2:AV):=aE env.P .neq n (Operand.tmp n2) (Operand.tmp n3) (some v) (some v2)
@[simp] noncomputable def zba(h:ab)(n:Nat)(v:AV)(i:Int):=aM env.P (ab.get h) n (some v) (some (AV.v (Value.int IntKind.i64 i)))
@[simp] noncomputable def zbb(v:AV)(n:Nat):=aF (some v) n
@[simp] noncomputable def zbc(h:ab)(n:Nat)(n2:Nat)(n3:Nat)(v:AV):=aJ env.P false (ab.get h) (Ref.mk (n+1) n2 (ab.gen h (n+1) n2) 0) .len #[n3] [v]
@[simp] noncomputable def zbd(n:Nat)(n2:Nat)(n3:Nat)(v:AV)(v2:AV):=aE env.P .add n (Operand.tmp n2) (Operand.tmp n3) (some v) (some v2)
@[simp] noncomputable def zbe(h:ab)(n:Nat)(v:AV)(v2:AV):=bo env true (bj env) (bV env 0) h (Ref.mk 0 n (ab.gen h 0 n) 0) (some v) [v2]
@[simp] noncomputable def zbf(h:ab)(n:Nat)(v:AV)(v2:AV):=eQ env.P (ab.get h) n (some v) (some none) (oi v2) (some none)
@[simp] noncomputable def zbg(v:AV):=wM env.P .not (some v)
@[simp] noncomputable def zbh(n:Nat)(n2:Nat)(n3:Nat)(v:AV)(v2:AV):=aE env.P .sub n (Operand.tmp n2) (Operand.tmp n3) (some v) (some v2)
@[simp] noncomputable def zbi(h:ab)(n:Nat)(v:AV)(v2:AV):=da env.P (ab.get h) n (some v) (some v2) false
@[simp] noncomputable def zbj(v:AV):=cF (some v)
@[simp] noncomputable def zbk(n:Nat)(n2:Nat)(v:AV):=aE env.P .eql n (Operand.tmp n2) (.const (.int .u8 1)) (some v) (some (a8 1))
@[simp] noncomputable def zbl(n:Nat)(h:ab)(n2:Nat)(v:AV):=bo env true (bj env) (bV env (n+1)) h (Ref.mk (n+1) n2 (ab.gen h (n+1) n2) 0) (some (.fn (.func 130) [] [])) [v]
@[simp] noncomputable def zbm(h:ab)(n:Nat)(n2:Nat):=bm h (Ref.mk (n+1) n2 (ab.gen h (n+1) n2) 0) (some (.mp (Ref.mk (n+1) n2 (ab.gen h (n+1) n2) 0),[bw []]))
@[simp] noncomputable def zbn(h:ab)(n:Nat)(n2:Nat)(n3:Nat)(n4:Nat)(v:AV)(n5:Nat)(v2:AV)(n6:Nat)(v3:AV):=fa env.P false true h (Ref.mk 0 n (ab.gen h 0 n) 0) n2 n3 (some [(n4,v),(n5,v2),(n6,v3)])
@[simp] noncomputable def zbo(n:Nat)(n2:Nat)(v:AV):=aE env.P .eql n (Operand.tmp n2) (.const (.int .u8 3)) (some v) (some (a8 3))
@[simp] noncomputable def zbp(n:Nat)(n2:Nat)(v:AV):=aE env.P .eql n (Operand.tmp n2) (.const (.slice none 0 0)) (some v) (some (.v (.slice none 0 0)))
@[simp] noncomputable def zbq(h:ab)(n:Nat)(n2:Nat)(n3:Nat)(n4:Nat)(v:AV)(v2:AV):=cS env.P true h (Ref.mk (n+1) n2 (ab.gen h (n+1) n2) 0) (some n3) (some n4) v v2
@[simp] noncomputable def zbr(n:Nat)(h:ab)(n2:Nat)(v:AV)(v2:AV)(v3:AV):=bo env true (bj env) (bV env (n+1)) h (Ref.mk (n+1) n2 (ab.gen h (n+1) n2) 0) (some v) [v2,v3]
@[simp] noncomputable def zbs(n:Nat)(h:ab)(n2:Nat)(v:AV)(v2:AV):=bo env true (bj env) (bV env (n+1)) h (Ref.mk (n+1) n2 (ab.gen h (n+1) n2) 0) (some v) [v2]
@[simp] noncomputable def zbt(n:Nat)(n2:Nat)(v:AV):=aE env.P .shr n (Operand.tmp n2) (.const (.int .u64 8)) (some v) (some (.v (.int .u64 8)))
@[simp] noncomputable def zbu(h:ab)(n:Nat)(n2:Nat)(v:AV):=aJ env.P false (ab.get h) (Ref.mk 0 n (ab.gen h 0 n) 0) .cap #[n2] [v]
@[simp] noncomputable def zbv(n:Nat)(i:Int)(n2:Nat)(v:AV):=aE env.P .mul n (Operand.const (Value.int IntKind.i64 i)) (Operand.tmp n2) (some (AV.v (Value.int IntKind.i64 i))) (some v)
@[simp] noncomputable def zbw(n:Nat)(n2:Nat)(i:Int)(v:AV):=aE kF.P .add n (Operand.tmp n2) (Operand.const (Value.int IntKind.i64 i)) (some v) (some (AV.v (Value.int IntKind.i64 i)))
@[simp] noncomputable def zbx(n:Nat)(h:ab)(n2:Nat)(v:AV)(v2:AV):=bo env false (bj env) (bV env (n+1)) h (Ref.mk (n+1) n2 (ab.gen h (n+1) n2) 0) (some (.fn (.func 92) [] [])) [v,v2]
@[simp] noncomputable def zby(n:Nat)(h:ab)(n2:Nat)(v:AV)(v2:AV):=bo env false (bj env) (bV env (n+1)) h (Ref.mk (n+1) n2 (ab.gen h (n+1) n2) 0) (some (.fn (.func 80) [] [])) [v,v2]
@[simp] noncomputable def zbz(n:Nat)(h:ab)(n2:Nat)(v:AV)(v2:AV)(v3:AV):=bo env true (bj env) (bV env (n+1)) h (Ref.mk (n+1) n2 (ab.gen h (n+1) n2) 0) (some (.fn (.func 154) [] [])) [v,v2,v3]
@[simp] noncomputable def zca(n:Nat)(h:ab)(n2:Nat)(v:AV)(v2:AV):=bo env true (bj env) (bV env (n+1)) h (Ref.mk (n+1) n2 (ab.gen h (n+1) n2) 0) (some (.fn (.func 156) [] [])) [v,v2]
@[simp] noncomputable def zcb(n:Nat)(h:ab)(n2:Nat)(v:AV)(v2:AV):=bo env true (bj env) (bV env (n+1)) h (Ref.mk (n+1) n2 (ab.gen h (n+1) n2) 0) (some (.fn (.func 20) [] [])) [v,v2]
@[simp] noncomputable def zcc(v:AV):=jX (some v)
@[simp] noncomputable def zcd(n:Nat)(h:ab)(n2:Nat)(v:AV)(v2:AV):=bo env true (bj env) (bV env (n+1)) h (Ref.mk (n+1) n2 (ab.gen h (n+1) n2) 0) (some (.fn (.func 158) [] [])) [v,v2]
@[simp] noncomputable def zce(n:Nat)(h:ab)(n2:Nat)(v:AV)(v2:AV):=bo env true (bj env) (bV env (n+1)) h (Ref.mk (n+1) n2 (ab.gen h (n+1) n2) 0) (some (.fn (.func 72) [] [])) [v,v2]
@[simp] noncomputable def zcf(n:Nat)(n2:Nat)(n3:Nat)(v:AV)(v2:AV):=aE env.P .geq n (Operand.tmp n2) (Operand.tmp n3) (some v) (some v2)
@[simp] noncomputable def zcg(h:ab)(n:Nat)(n2:Nat)(n3:Nat)(n4:Nat)(n5:Nat)(v:AV):=fa env.P true false h (Ref.mk (n+1) n2 (ab.gen h (n+1) n2) 0) n3 n4 (some [(n5,v)])
@[simp] noncomputable def zch(n:Nat):=cK env.P n (some [])
@[simp] noncomputable def zci(h:ab)(n:Nat)(n2:Nat)(n3:Nat)(v:AV)(v2:AV):=aJ env.P true (ab.get h) (Ref.mk 0 n (ab.gen h 0 n) 0) .max #[n2,n3] [v,v2]
@[simp] noncomputable def zcj(n:Nat)(n2:Nat)(v:AV):=aE env.P .shr n (Operand.tmp n2) (.const (.int .u64 16)) (some v) (some (.v (.int .u64 16)))
@[simp] noncomputable def zck(h:ab)(n:Nat)(n2:Nat)(n3:Nat):=fa env.P false true h (Ref.mk 0 n (ab.gen h 0 n) 0) n2 n3 (some [])
@[simp] noncomputable def zcl(n:Nat)(n2:Nat)(n3:Nat)(v:AV)(v2:AV):=aE env.P .gtr n (Operand.tmp n2) (Operand.tmp n3) (some v) (some v2)
@[simp] noncomputable def zcm(n:Nat)(n2:Nat)(v:AV):=cK env.P n (some [(n2,v)])
@[simp] noncomputable def zcn(h:ab)(v:AV)(n:Nat):=du env.P h v n
@[simp] noncomputable def zco(h:ab)(v:AV)(v2:AV)(v3:AV):=dn h (some v) (some v2) (some v3)
@[simp] noncomputable def zcp(h:ab)(n:Nat)(v:AV)(v2:AV):=eF env.P h n (some v) (some v2)
@[simp] noncomputable def zcq(n:Nat)(v:AV)(n2:Nat):=lC env.P n (some v) n2
@[simp] noncomputable def zcr(h:ab)(n:Nat)(v:AV):=aj kF.P (ab.get h) n (some v)
@[simp] theorem aaO:kF.P=env.P:=id rfl
@[simp] theorem YO:aU env.P 3=(some 1):=by kernel_rfl
@[simp] theorem aau:dD env.P 3=(some false):=by kernel_rfl
@[simp] theorem ZL:lF env.P 3=(some 1):=by kernel_rfl
@[simp] theorem ZM:isInt env.P 3=true:=by kernel_rfl
@[simp] theorem Vt:intKind env.P 3=(some .i64):=by kernel_rfl
@[simp] theorem aao:(env.P.underlying 3).isNone=false:=by kernel_rfl
@[simp] theorem YN:aU env.P 4=(some 1):=by kernel_rfl
@[simp] theorem aat:dD env.P 4=(some false):=by kernel_rfl
@[simp] theorem ZK:lF env.P 4=(some 0):=by kernel_rfl
@[simp] theorem XQ:isBool env.P 4=true:=by kernel_rfl
@[simp] theorem YM:aU env.P 5=(some 1):=by kernel_rfl
@[simp] theorem aas:dD env.P 5=(some false):=by kernel_rfl
@[simp] theorem ZJ:lF env.P 5=(some 1):=by kernel_rfl
@[simp] theorem Vs:intKind env.P 5=(some .u8):=by kernel_rfl
@[simp] theorem MQ:aU env.P 21=(some 1):=by kernel_rfl
@[simp] theorem PY:dD env.P 21=(some false):=by kernel_rfl
@[simp] theorem TF:intKind env.P 21=(some .i32):=by kernel_rfl
@[simp] theorem YK:(env.P.underlying 21).isNone=false:=by kernel_rfl
@[simp] theorem Wv:aU env.P 22=(some 4):=by kernel_rfl
@[simp] theorem Zp:dD env.P 22=(some true):=by kernel_rfl
@[simp] theorem Wy:dY env.P 22=none:=by kernel_rfl
@[simp] theorem Y7:iy env.P 22=(some (4,3)):=by kernel_rfl
@[simp] theorem Wc:eG env.P 22=(some (.agg [(.v (.int .i64 0)),(.v (.int .i64 0)),(.v (.int .i64 0)),(.v (.int .i64 0))])):=by kernel_rfl
@[simp] theorem XG:lF env.P 22=none:=by kernel_rfl
@[simp] theorem Sr:fw env.P 22=none:=by kernel_rfl
@[simp] theorem Wu:aU env.P 23=(some 1):=by kernel_rfl
@[simp] theorem Zo:dD env.P 23=(some false):=by kernel_rfl
@[simp] theorem XF:lF env.P 23=(some 1):=by kernel_rfl
@[simp] theorem TE:intKind env.P 23=(some .i64):=by kernel_rfl
@[simp] theorem YJ:(env.P.underlying 23).isNone=false:=by kernel_rfl
@[simp] theorem Wt:aU env.P 26=(some 1):=by kernel_rfl
@[simp] theorem Zn:dD env.P 26=(some false):=by kernel_rfl
@[simp] theorem MU:dY env.P 26=(some 52):=by kernel_rfl
@[simp] theorem Y6:iy env.P 26=none:=by kernel_rfl
@[simp] theorem XO:isStr env.P 26=false:=by kernel_rfl
@[simp] theorem abb:Dl env.P 26=true:=by kernel_rfl
@[simp] theorem Z4:nV env.P 26=true:=by kernel_rfl
@[simp] theorem aaU:lK env.P 26=3:=by kernel_rfl
@[simp] theorem aaa:qx env.P 26=12:=by kernel_rfl
@[simp] theorem VL:iG env.P 26=(.agg [(a8 0),(aG 0),(.v (.bool false))]):=by kernel_rfl
@[simp] theorem Ws:aU env.P 27=(some 1):=by kernel_rfl
@[simp] theorem Zm:dD env.P 27=(some false):=by kernel_rfl
@[simp] theorem MT:dY env.P 27=(some 76):=by kernel_rfl
@[simp] theorem Y5:iy env.P 27=none:=by kernel_rfl
@[simp] theorem XN:isStr env.P 27=false:=by kernel_rfl
@[simp] theorem aba:Dl env.P 27=true:=by kernel_rfl
@[simp] theorem Z3:nV env.P 27=true:=by kernel_rfl
@[simp] theorem aaT:lK env.P 27=5:=by kernel_rfl
@[simp] theorem Z9:qx env.P 27=32:=by kernel_rfl
@[simp] theorem VK:iG env.P 27=(.agg [(a8 0),(aG 0),(.v (.int .i64 0)),(.v (.int .i64 0)),(.v (.int .i64 0))]):=by kernel_rfl
@[simp] theorem Wr:aU env.P 29=(some 3):=by kernel_rfl
@[simp] theorem Zl:dD env.P 29=(some true):=by kernel_rfl
@[simp] theorem Y4:iy env.P 29=none:=by kernel_rfl
@[simp] theorem Wb:eG env.P 29=(some (.agg [(.v (.slice none 0 0)),(.v (.slice none 0 0)),(.v (.int .i64 0))])):=by kernel_rfl
@[simp] theorem HY:fw env.P 29=(some [26,27,3]):=by kernel_rfl
@[simp] theorem Vf:fu env.P 29=(some [(0,1),(1,1),(2,1)]):=by kernel_rfl
@[simp] theorem Sn:aL env.P 29 0=(some (0,1)):=by kernel_rfl
@[simp] theorem Sb:aL env.P 29 1=(some (1,1)):=by kernel_rfl
@[simp] theorem RZ:aL env.P 29 2=(some (2,1)):=by kernel_rfl
@[simp] theorem Wq:aU env.P 31=(some 1):=by kernel_rfl
@[simp] theorem Zk:dD env.P 31=(some false):=by kernel_rfl
@[simp] theorem MS:dY env.P 31=(some 56):=by kernel_rfl
@[simp] theorem Y3:iy env.P 31=none:=by kernel_rfl
@[simp] theorem XM:isStr env.P 31=false:=by kernel_rfl
@[simp] theorem aa9:Dl env.P 31=true:=by kernel_rfl
@[simp] theorem Z2:nV env.P 31=true:=by kernel_rfl
@[simp] theorem aaS:lK env.P 31=24:=by kernel_rfl
@[simp] theorem Z8:qx env.P 31=160:=by kernel_rfl
@[simp] theorem VJ:iG env.P 31=(.agg [(a8 0),(.v (.int .i64 0)),(a8 0),(a8 0),(aG 0),(a8 0),(.v (.int .i64 0)),(a8 0),(aG 0),(a8 0),(.v (.int .i64 0)),(.v (.int .i64 0)),(a8 0),(aG 0),(a8 0),(.v (.int .i64 0)),(a8 0),(aG 0),(.v (.slice none 0 0)),(.v (.int .i64 0)),(.v (.int .i64 0)),(a8 0),(aG 0),(.v (.bool false))]):=by kernel_rfl
@[simp] theorem Wp:aU env.P 33=(some 1):=by kernel_rfl
@[simp] theorem Zj:dD env.P 33=(some false):=by kernel_rfl
@[simp] theorem XE:lF env.P 33=(some 1):=by kernel_rfl
@[simp] theorem TD:intKind env.P 33=(some .u32):=by kernel_rfl
@[simp] theorem YI:(env.P.underlying 33).isNone=false:=by kernel_rfl
@[simp] theorem Wo:aU env.P 35=(some 2):=by kernel_rfl
@[simp] theorem Zi:dD env.P 35=(some true):=by kernel_rfl
@[simp] theorem Y2:iy env.P 35=none:=by kernel_rfl
@[simp] theorem Wa:eG env.P 35=(some (.agg [(a8 0),(aG 0)])):=by kernel_rfl
@[simp] theorem XD:lF env.P 35=none:=by kernel_rfl
@[simp] theorem ZT:Aa env.P 35=true:=by kernel_rfl
@[simp] theorem HX:fw env.P 35=(some [5,33]):=by kernel_rfl
@[simp] theorem Ve:fu env.P 35=(some [(0,1),(1,1)]):=by kernel_rfl
@[simp] theorem Sm:aL env.P 35 0=(some (0,1)):=by kernel_rfl
@[simp] theorem Sa:aL env.P 35 1=(some (1,1)):=by kernel_rfl
@[simp] theorem Wx:dY env.P 36=(some 67):=by kernel_rfl
@[simp] theorem Y1:iy env.P 36=none:=by kernel_rfl
@[simp] theorem XL:isStr env.P 36=false:=by kernel_rfl
@[simp] theorem aa8:Dl env.P 36=true:=by kernel_rfl
@[simp] theorem Z1:nV env.P 36=true:=by kernel_rfl
@[simp] theorem aaR:lK env.P 36=5:=by kernel_rfl
@[simp] theorem Z7:qx env.P 36=32:=by kernel_rfl
@[simp] theorem VI:iG env.P 36=(.agg [(a8 0),(aG 0),(a8 0),(.v (.int .i64 0)),(.v (.int .i64 0))]):=by kernel_rfl
@[simp] theorem Wn:aU env.P 40=(some 3):=by kernel_rfl
@[simp] theorem Zh:dD env.P 40=(some true):=by kernel_rfl
@[simp] theorem Y0:iy env.P 40=none:=by kernel_rfl
@[simp] theorem V9:eG env.P 40=(some (.agg [(a8 0),(aG 0),(a8 0)])):=by kernel_rfl
@[simp] theorem XC:lF env.P 40=none:=by kernel_rfl
@[simp] theorem ZS:Aa env.P 40=true:=by kernel_rfl
@[simp] theorem HW:fw env.P 40=(some [35,5]):=by kernel_rfl
@[simp] theorem Vd:fu env.P 40=(some [(0,2),(2,1)]):=by kernel_rfl
@[simp] theorem Rx:me env.P 40 0=(some (0,35)):=by kernel_rfl
@[simp] theorem Sk:aL env.P 40 0=(some (0,2)):=by kernel_rfl
@[simp] theorem R9:aL env.P 40 1=(some (2,1)):=by kernel_rfl
@[simp] theorem Wm:aU env.P 45=(some 4):=by kernel_rfl
@[simp] theorem Zg:dD env.P 45=(some true):=by kernel_rfl
@[simp] theorem YZ:iy env.P 45=none:=by kernel_rfl
@[simp] theorem V8:eG env.P 45=(some (.agg [(a8 0),(aG 0),(a8 0),(.v (.int .i64 0))])):=by kernel_rfl
@[simp] theorem XB:lF env.P 45=none:=by kernel_rfl
@[simp] theorem ZR:Aa env.P 45=true:=by kernel_rfl
@[simp] theorem HV:fw env.P 45=(some [40,3]):=by kernel_rfl
@[simp] theorem Vc:fu env.P 45=(some [(0,3),(3,1)]):=by kernel_rfl
@[simp] theorem Sj:aL env.P 45 0=(some (0,3)):=by kernel_rfl
@[simp] theorem R8:aL env.P 45 1=(some (3,1)):=by kernel_rfl
@[simp] theorem Wl:aU env.P 47=(some 5):=by kernel_rfl
@[simp] theorem Zf:dD env.P 47=(some true):=by kernel_rfl
@[simp] theorem YY:iy env.P 47=none:=by kernel_rfl
@[simp] theorem V7:eG env.P 47=(some (.agg [(a8 0),(aG 0),(a8 0),(.v (.int .i64 0)),(.v (.int .i64 0))])):=by kernel_rfl
@[simp] theorem XA:lF env.P 47=none:=by kernel_rfl
@[simp] theorem ZQ:Aa env.P 47=true:=by kernel_rfl
@[simp] theorem HU:fw env.P 47=(some [45,3]):=by kernel_rfl
@[simp] theorem Vb:fu env.P 47=(some [(0,4),(4,1)]):=by kernel_rfl
@[simp] theorem Si:aL env.P 47 0=(some (0,4)):=by kernel_rfl
@[simp] theorem R7:aL env.P 47 1=(some (4,1)):=by kernel_rfl
@[simp] theorem Wk:aU env.P 48=(some 1):=by kernel_rfl
@[simp] theorem Ze:dD env.P 48=(some false):=by kernel_rfl
@[simp] theorem MR:dY env.P 48=(some 21):=by kernel_rfl
@[simp] theorem YX:iy env.P 48=none:=by kernel_rfl
@[simp] theorem XK:isStr env.P 48=false:=by kernel_rfl
@[simp] theorem aa7:Dl env.P 48=true:=by kernel_rfl
@[simp] theorem Z0:nV env.P 48=true:=by kernel_rfl
@[simp] theorem aaQ:lK env.P 48=1:=by kernel_rfl
@[simp] theorem Z6:qx env.P 48=4:=by kernel_rfl
@[simp] theorem VH:iG env.P 48=(.v (.int .i32 0)):=by kernel_rfl
@[simp] theorem Wj:aU env.P 50=(some 17):=by kernel_rfl
@[simp] theorem Zd:dD env.P 50=(some true):=by kernel_rfl
@[simp] theorem YW:iy env.P 50=none:=by kernel_rfl
@[simp] theorem V6:eG env.P 50=(some (.agg [(a8 0),(a8 0),(aG 0),(a8 0),(.v (.int .i64 0)),(a8 0),(aG 0),(a8 0),(.v (.int .i64 0)),(.v (.int .i64 0)),(a8 0),(aG 0),(a8 0),(.v (.int .i64 0)),(a8 0),(aG 0),(.v (.slice none 0 0))])):=by kernel_rfl
@[simp] theorem HT:fw env.P 50=(some [5,40,3,47,45,35,48]):=by kernel_rfl
@[simp] theorem Va:fu env.P 50=(some [(0,1),(1,3),(4,1),(5,5),(10,4),(14,2),(16,1)]):=by kernel_rfl
@[simp] theorem Sh:aL env.P 50 0=(some (0,1)):=by kernel_rfl
@[simp] theorem R6:aL env.P 50 1=(some (1,3)):=by kernel_rfl
@[simp] theorem RY:aL env.P 50 2=(some (4,1)):=by kernel_rfl
@[simp] theorem RT:aL env.P 50 3=(some (5,5)):=by kernel_rfl
@[simp] theorem RP:aL env.P 50 4=(some (10,4)):=by kernel_rfl
@[simp] theorem RM:aL env.P 50 5=(some (14,2)):=by kernel_rfl
@[simp] theorem RK:aL env.P 50 6=(some (16,1)):=by kernel_rfl
@[simp] theorem MP:aU env.P 52=(some 3):=by kernel_rfl
@[simp] theorem PX:dD env.P 52=(some true):=by kernel_rfl
@[simp] theorem YV:iy env.P 52=none:=by kernel_rfl
@[simp] theorem V5:eG env.P 52=(some (.agg [(a8 0),(aG 0),(.v (.bool false))])):=by kernel_rfl
@[simp] theorem Xz:lF env.P 52=none:=by kernel_rfl
@[simp] theorem AH:fw env.P 52=(some [35,4]):=by kernel_rfl
@[simp] theorem U9:fu env.P 52=(some [(0,2),(2,1)]):=by kernel_rfl
@[simp] theorem Sg:aL env.P 52 0=(some (0,2)):=by kernel_rfl
@[simp] theorem R5:aL env.P 52 1=(some (2,1)):=by kernel_rfl
@[simp] theorem Wi:aU env.P 54=(some 4):=by kernel_rfl
@[simp] theorem Zc:dD env.P 54=(some true):=by kernel_rfl
@[simp] theorem Xy:lF env.P 54=none:=by kernel_rfl
@[simp] theorem ZP:Aa env.P 54=true:=by kernel_rfl
@[simp] theorem HS:fw env.P 54=(some [3,52]):=by kernel_rfl
@[simp] theorem Sf:aL env.P 54 0=(some (0,1)):=by kernel_rfl
@[simp] theorem R4:aL env.P 54 1=(some (1,3)):=by kernel_rfl
@[simp] theorem MO:aU env.P 56=(some 24):=by kernel_rfl
@[simp] theorem PW:dD env.P 56=(some true):=by kernel_rfl
@[simp] theorem YU:iy env.P 56=none:=by kernel_rfl
@[simp] theorem V4:eG env.P 56=(some (.agg [(a8 0),(.v (.int .i64 0)),(a8 0),(a8 0),(aG 0),(a8 0),(.v (.int .i64 0)),(a8 0),(aG 0),(a8 0),(.v (.int .i64 0)),(.v (.int .i64 0)),(a8 0),(aG 0),(a8 0),(.v (.int .i64 0)),(a8 0),(aG 0),(.v (.slice none 0 0)),(.v (.int .i64 0)),(.v (.int .i64 0)),(a8 0),(aG 0),(.v (.bool false))])):=by kernel_rfl
@[simp] theorem HR:fw env.P 56=(some [5,3,50,23,54]):=by kernel_rfl
@[simp] theorem U8:fu env.P 56=(some [(0,1),(1,1),(2,17),(19,1),(20,4)]):=by kernel_rfl
@[simp] theorem Se:aL env.P 56 0=(some (0,1)):=by kernel_rfl
@[simp] theorem R3:aL env.P 56 1=(some (1,1)):=by kernel_rfl
@[simp] theorem RX:aL env.P 56 2=(some (2,17)):=by kernel_rfl
@[simp] theorem RS:aL env.P 56 3=(some (19,1)):=by kernel_rfl
@[simp] theorem RO:aL env.P 56 4=(some (20,4)):=by kernel_rfl
@[simp] theorem Wh:aU env.P 67=(some 5):=by kernel_rfl
@[simp] theorem Zb:dD env.P 67=(some true):=by kernel_rfl
@[simp] theorem YT:iy env.P 67=none:=by kernel_rfl
@[simp] theorem V3:eG env.P 67=(some (.agg [(a8 0),(aG 0),(a8 0),(.v (.int .i64 0)),(.v (.int .i64 0))])):=by kernel_rfl
@[simp] theorem Xx:lF env.P 67=none:=by kernel_rfl
@[simp] theorem Sq:fw env.P 67=(some [40,3,23]):=by kernel_rfl
@[simp] theorem U7:fu env.P 67=(some [(0,3),(3,1),(4,1)]):=by kernel_rfl
@[simp] theorem R2:aL env.P 67 1=(some (3,1)):=by kernel_rfl
@[simp] theorem RW:aL env.P 67 2=(some (4,1)):=by kernel_rfl
@[simp] theorem MN:aU env.P 76=(some 5):=by kernel_rfl
@[simp] theorem PV:dD env.P 76=(some true):=by kernel_rfl
@[simp] theorem YS:iy env.P 76=none:=by kernel_rfl
@[simp] theorem V2:eG env.P 76=(some (.agg [(a8 0),(aG 0),(.v (.int .i64 0)),(.v (.int .i64 0)),(.v (.int .i64 0))])):=by kernel_rfl
@[simp] theorem HQ:fw env.P 76=(some [35,3,3,3]):=by kernel_rfl
@[simp] theorem U6:fu env.P 76=(some [(0,2),(2,1),(3,1),(4,1)]):=by kernel_rfl
@[simp] theorem Sd:aL env.P 76 0=(some (0,2)):=by kernel_rfl
@[simp] theorem R1:aL env.P 76 1=(some (2,1)):=by kernel_rfl
@[simp] theorem RV:aL env.P 76 2=(some (3,1)):=by kernel_rfl
@[simp] theorem Rw:me env.P 76 3=(some (4,3)):=by kernel_rfl
@[simp] theorem RR:aL env.P 76 3=(some (4,1)):=by kernel_rfl
@[simp] theorem Wg:aU env.P 88=(some 1):=by kernel_rfl
@[simp] theorem Za:dD env.P 88=(some false):=by kernel_rfl
@[simp] theorem Wf:aU env.P 89=(some 1):=by kernel_rfl
@[simp] theorem Y9:dD env.P 89=(some false):=by kernel_rfl
@[simp] theorem We:aU env.P 90=(some 1):=by kernel_rfl
@[simp] theorem Y8:dD env.P 90=(some false):=by kernel_rfl
@[simp] theorem Ww:dY env.P 90=(some 50):=by kernel_rfl
@[simp] theorem YR:iy env.P 90=none:=by kernel_rfl
@[simp] theorem XJ:isStr env.P 90=false:=by kernel_rfl
@[simp] theorem aa6:Dl env.P 90=true:=by kernel_rfl
@[simp] theorem ZZ:nV env.P 90=true:=by kernel_rfl
@[simp] theorem aaP:lK env.P 90=17:=by kernel_rfl
@[simp] theorem Z5:qx env.P 90=112:=by kernel_rfl
@[simp] theorem VG:iG env.P 90=(.agg [(a8 0),(a8 0),(aG 0),(a8 0),(.v (.int .i64 0)),(a8 0),(aG 0),(a8 0),(.v (.int .i64 0)),(.v (.int .i64 0)),(a8 0),(aG 0),(a8 0),(.v (.int .i64 0)),(a8 0),(aG 0),(.v (.slice none 0 0))]):=by kernel_rfl
@[simp] theorem Wd:aU env.P 92=(some 10):=by kernel_rfl
@[simp] theorem YQ:iy env.P 92=none:=by kernel_rfl
@[simp] theorem V1:eG env.P 92=(some (.agg [(.v (.slice none 0 0)),(.v (.slice none 0 0)),(.v (.int .i64 0)),(.v (.slice none 0 0)),(.v (.slice none 0 0)),(.v (.int .i64 0)),(.v (.slice none 0 0)),(.v (.map none)),(.v (.map none)),(.v (.slice none 0 0))])):=by kernel_rfl
@[simp] theorem U5:fu env.P 92=(some [(0,3),(3,3),(6,1),(7,1),(8,1),(9,1)]):=by kernel_rfl
@[simp] theorem Sc:aL env.P 92 0=(some (0,3)):=by kernel_rfl
@[simp] theorem R0:aL env.P 92 1=(some (3,3)):=by kernel_rfl
@[simp] theorem RU:aL env.P 92 2=(some (6,1)):=by kernel_rfl
@[simp] theorem RQ:aL env.P 92 3=(some (7,1)):=by kernel_rfl
@[simp] theorem RN:aL env.P 92 4=(some (8,1)):=by kernel_rfl
@[simp] theorem RL:aL env.P 92 5=(some (9,1)):=by kernel_rfl
@[simp] theorem UL:aU env.P 105=(some 1):=by kernel_rfl
@[simp] theorem WV:dD env.P 105=(some false):=by kernel_rfl
@[simp] theorem UK:aU env.P 106=(some 1):=by kernel_rfl
@[simp] theorem WU:dD env.P 106=(some false):=by kernel_rfl
@[simp] theorem PT:me env.P 108 0=(some (0,105)):=by kernel_rfl
@[simp] theorem PQ:me env.P 108 1=(some (1,106)):=by kernel_rfl
@[simp] theorem UJ:aU env.P 112=(some 1):=by kernel_rfl
@[simp] theorem WT:dD env.P 112=(some false):=by kernel_rfl
@[simp] theorem UI:aU env.P 119=(some 3):=by kernel_rfl
@[simp] theorem WS:dD env.P 119=(some true):=by kernel_rfl
@[simp] theorem WJ:iy env.P 119=none:=by kernel_rfl
@[simp] theorem Uy:eG env.P 119=(some (.agg [(.v (.bool false)),(.v (.int .i64 0)),(.v (.int .i64 0))])):=by kernel_rfl
@[simp] theorem Tb:fu env.P 119=(some [(0,1),(1,1),(2,1)]):=by kernel_rfl
@[simp] theorem PS:me env.P 119 0=(some (0,4)):=by kernel_rfl
@[simp] theorem Q5:aL env.P 119 0=(some (0,1)):=by kernel_rfl
@[simp] theorem Q1:aL env.P 119 1=(some (1,1)):=by kernel_rfl
@[simp] theorem QY:aL env.P 119 2=(some (2,1)):=by kernel_rfl
@[simp] theorem UH:aU env.P 137=(some 1):=by kernel_rfl
@[simp] theorem WR:dD env.P 137=(some false):=by kernel_rfl
@[simp] theorem UQ:dY env.P 137=(some 5):=by kernel_rfl
@[simp] theorem WI:iy env.P 137=none:=by kernel_rfl
@[simp] theorem Vr:isStr env.P 137=false:=by kernel_rfl
@[simp] theorem aal:Dl env.P 137=true:=by kernel_rfl
@[simp] theorem Yj:nV env.P 137=true:=by kernel_rfl
@[simp] theorem ZY:lK env.P 137=1:=by kernel_rfl
@[simp] theorem Ym:qx env.P 137=1:=by kernel_rfl
@[simp] theorem T5:iG env.P 137=(a8 0):=by kernel_rfl
@[simp] theorem UG:aU env.P 140=(some 24):=by kernel_rfl
@[simp] theorem WH:iy env.P 140=none:=by kernel_rfl
@[simp] theorem Ux:eG env.P 140=(some (.agg [(a8 0),(.v (.int .i64 0)),(a8 0),(a8 0),(aG 0),(a8 0),(.v (.int .i64 0)),(a8 0),(aG 0),(a8 0),(.v (.int .i64 0)),(.v (.int .i64 0)),(a8 0),(aG 0),(a8 0),(.v (.int .i64 0)),(a8 0),(aG 0),(.v (.slice none 0 0)),(.v (.int .i64 0)),(.v (.int .i64 0)),(a8 0),(aG 0),(.v (.bool false))])):=by kernel_rfl
@[simp] theorem Ta:fu env.P 140=(some [(0,24)]):=by kernel_rfl
@[simp] theorem Q4:aL env.P 140 0=(some (0,24)):=by kernel_rfl
@[simp] theorem UP:dY env.P 148=(some 4):=by kernel_rfl
@[simp] theorem WG:iy env.P 148=none:=by kernel_rfl
@[simp] theorem Vq:isStr env.P 148=false:=by kernel_rfl
@[simp] theorem Yi:nV env.P 148=true:=by kernel_rfl
@[simp] theorem ZX:lK env.P 148=1:=by kernel_rfl
@[simp] theorem T4:iG env.P 148=(.v (.bool false)):=by kernel_rfl
@[simp] theorem UO:dY env.P 166=(some 45):=by kernel_rfl
@[simp] theorem WE:iy env.P 166=none:=by kernel_rfl
@[simp] theorem Vp:isStr env.P 166=false:=by kernel_rfl
@[simp] theorem aak:Dl env.P 166=true:=by kernel_rfl
@[simp] theorem Yh:nV env.P 166=true:=by kernel_rfl
@[simp] theorem ZW:lK env.P 166=4:=by kernel_rfl
@[simp] theorem Yl:qx env.P 166=24:=by kernel_rfl
@[simp] theorem T3:iG env.P 166=(.agg [(a8 0),(aG 0),(a8 0),(.v (.int .i64 0))]):=by kernel_rfl
@[simp] theorem UF:aU env.P 171=(some 10):=by kernel_rfl
@[simp] theorem WQ:dD env.P 171=(some true):=by kernel_rfl
@[simp] theorem WD:iy env.P 171=none:=by kernel_rfl
@[simp] theorem Uw:eG env.P 171=(some (.agg [(a8 0),(aG 0),(a8 0),(.v (.int .i64 0)),(.v (.int .i64 0)),(a8 0),(aG 0),(a8 0),(.v (.int .i64 0)),(.v (.slice none 0 0))])):=by kernel_rfl
@[simp] theorem S9:fu env.P 171=(some [(0,5),(5,4),(9,1)]):=by kernel_rfl
@[simp] theorem Q3:aL env.P 171 0=(some (0,5)):=by kernel_rfl
@[simp] theorem Q0:aL env.P 171 1=(some (5,4)):=by kernel_rfl
@[simp] theorem QX:aL env.P 171 2=(some (9,1)):=by kernel_rfl
@[simp] theorem UE:aU env.P 178=(some 1):=by kernel_rfl
@[simp] theorem WO:dD env.P 178=(some false):=by kernel_rfl
@[simp] theorem UD:aU env.P 179=(some 1):=by kernel_rfl
@[simp] theorem WN:dD env.P 179=(some false):=by kernel_rfl
@[simp] theorem UC:aU env.P 193=(some 1):=by kernel_rfl
@[simp] theorem WM:dD env.P 193=(some false):=by kernel_rfl
@[simp] theorem UN:dY env.P 193=(some 35):=by kernel_rfl
@[simp] theorem WC:iy env.P 193=none:=by kernel_rfl
@[simp] theorem Vo:isStr env.P 193=false:=by kernel_rfl
@[simp] theorem Uv:eG env.P 193=(some (.v (.slice none 0 0))):=by kernel_rfl
@[simp] theorem aaj:Dl env.P 193=true:=by kernel_rfl
@[simp] theorem Yg:nV env.P 193=true:=by kernel_rfl
@[simp] theorem ZV:lK env.P 193=2:=by kernel_rfl
@[simp] theorem Yk:qx env.P 193=8:=by kernel_rfl
@[simp] theorem T2:iG env.P 193=(.agg [(a8 0),(aG 0)]):=by kernel_rfl
@[simp] theorem UB:aU env.P 196=(some 1):=by kernel_rfl
@[simp] theorem WL:dD env.P 196=(some false):=by kernel_rfl
@[simp] theorem UA:aU env.P 198=(some 2):=by kernel_rfl
@[simp] theorem WB:iy env.P 198=none:=by kernel_rfl
@[simp] theorem Uu:eG env.P 198=(some (.agg [(.v (.slice none 0 0)),(.v (.map none))])):=by kernel_rfl
@[simp] theorem S8:fu env.P 198=(some [(0,1),(1,1)]):=by kernel_rfl
@[simp] theorem Q2:aL env.P 198 0=(some (0,1)):=by kernel_rfl
@[simp] theorem QZ:aL env.P 198 1=(some (1,1)):=by kernel_rfl
@[simp] theorem Uz:aU env.P 202=(some 2):=by kernel_rfl
@[simp] theorem WK:dD env.P 202=(some true):=by kernel_rfl
@[simp] theorem PR:me env.P 202 0=(some (0,112)):=by kernel_rfl
@[simp] theorem WA:iy env.P 203=(some (4,202)):=by kernel_rfl
@[simp] theorem UM:dY env.P 209=(some 137):=by kernel_rfl
@[simp] theorem Wz:iy env.P 209=none:=by kernel_rfl
@[simp] theorem Vn:isStr env.P 209=false:=by kernel_rfl
@[simp] theorem Yf:nV env.P 209=true:=by kernel_rfl
@[simp] theorem ZU:lK env.P 209=1:=by kernel_rfl
@[simp] theorem TZ:iG env.P 209=(.v (.slice none 0 0)):=by kernel_rfl
end Go.Proofs.YtdbiffjdomokfaaGreat
