/-
  The facts on the program's types, computed. No statement of a seat is proved here.
-/
import Derived.Test.YtdbiffjdomokfaaGreatRows
import Derived.Test.YtdbiffjdomokfaaGreatAbsRules
import Derived.Test.YtdbiffjdomokfaaGreatMAuSpec
set_option linter.unusedVariables false
set_option maxRecDepth 1000000
namespace Go.Proofs.YtdbiffjdomokfaaGreat
open Go.Ab
def fns:List FuncId:=[3,4,5,6,7,8,9,10,11,12,13,14,15,16,17,18,19,20,21,22,24,25,26,27,28,29,30,31,32,33,34,35,36,37,38,39,40,41,42,43,44,45,46,47,48,49,50,51,52,53,54,55,56,57,58,59,60,61,62,63,64,65,66,67,68,69,70,71,72,73,74,75,76,77,78,79,80,81,82,83,84,85,86,87,88,89,90,91,92,93,94,95,96,97,98,99,100,101,102,103,104,105,106,107,108,109,110,111,112,113,114,115,116,117,118,119,120,121,122,123,124,125,126,127,128,129,130,131,132,133,134,135,136,137,138,139,140,141,142,143,144,145,146,147,148,149,150,151,152,153,154,155,156,157,158,159,160,161,162,163,164,165,166,167,168,169,170,171,172,173,174,175,176]
def cZ:List FuncId:=[43,42,98,95,69,70,120,138]
def ld:List FuncId:=[23,32,34,35,71,72,73,74,75,76,77,79,81,114,116,133,134,135,154,156,157,158,166,167,175]
def GG:List (FuncId × List AV × AV):=[]
noncomputable def env:Env:=Cj Tryz.prog fns cZ ld (L8 [(19,13,18),(16,1,77777),(55,1,88888),(35,73,88889),(55,76,88889),(7,5,66666),(20,42,88889)]) (xG [(15,12,0,[(20,23)]),(52,10,0,[(56,58)]),(25,34,4,[(44,43)]),(6,21,0,[(16,4),(20,4),(17,4)]),(58,23,0,[(71,61),(4,61),(5,61),(5,68)]),(7,6,0,[(3,5)]),(64,16,17,[(5,66),(66,7)]),(143,16,25,[(5,145),(145,7),(145,9)])]) (RX [(19,13,18),(16,1,77777),(55,1,88888),(35,73,88889),(55,76,88889),(7,5,66666),(20,42,88889)]) GG (fun _=>false) (fun _=>none) xK Cb
theorem Tc:NM env fns=true:=by kernel_rfl
@[simp] theorem ZU{f:FuncId}(h:ld.contains f=false):(env.mode f == 2)=false:=by
 show((if cZ.contains f then (if ld.contains f then 3 else 1) else if ld.contains f then 2 else 0) == 2)=false
 rw[h]
 split<;>rfl
@[simp] theorem YS{f:FuncId}(h:ld.contains f=false):(env.mode f == 3)=false:=by
 show((if cZ.contains f then (if ld.contains f then 3 else 1) else if ld.contains f then 2 else 0) == 3)=false
 rw[h]
 split<;>rfl
theorem WL{f:FuncId}(h:cZ.contains f=false):uO (env.mode f)=false:=by
 show uO (if cZ.contains f then (if ld.contains f then 3 else 1) else if ld.contains f then 2 else 0)=false
 rw[h]
 cases ld.contains f<;>rfl
@[simp] theorem P9{f:FuncId}(h:cZ.contains f=false)(x:AV)(H:ab)(y:AV):handed env f x H y↔view H.get depth x=some y:=Lh (WL h) x H y
theorem WK{f:FuncId}(h:cZ.contains f=true):uO (env.mode f)=true:=by
 show uO (if cZ.contains f then (if ld.contains f then 3 else 1) else if ld.contains f then 2 else 0)=true
 rw[h]
 cases ld.contains f<;>rfl
@[simp] theorem YZ{f:FuncId}(h:cZ.contains f=true)(x:AV)(H:ab)(y:AV):handed env f x H y↔(aG H.get depth x).Nodup∧dK H.get depth x=some y:=G4 (WK h) x H y
noncomputable def kA:Env:=Cj Tryz.prog [] [] [] (fun _=>false) (fun _=>[]) (fun _=>false) [] (fun _=>false) (fun _=>none) (fun _ _ _=>none) Cb
@[simp] noncomputable def zaa(b:Bool)(h:ab)(n:Nat)(n2:Nat)(a:List AV):=bn env b (bj env) (bU env 0) h (Ref.mk 0 n (ab.gen h 0 n) 0) (some (AV.fn (Fn.func n2) [] [])) a
@[simp] noncomputable def zab(h:ab)(n:Nat)(v:AV):=aj env.P (ab.get h) n (some v)
@[simp] noncomputable def zac(h:ab)(n:Nat)(n2:Nat)(v:AV):=bl h (Ref.mk 0 n (ab.gen h 0 n) 0) (cB env.P (Ref.mk 0 n (ab.gen h 0 n) 0) n2 (some v))
@[simp] noncomputable def zad(n:Nat)(v:AV)(n2:Nat):=aa env.P n (some v) n2
@[simp] noncomputable def zae(n:Nat)(n2:Nat)(i:Int)(v:AV):=aE env.P .add n (Operand.tmp n2) (Operand.const (Value.int IntKind.i64 i)) (some v) (some (AV.v (Value.int IntKind.i64 i)))
@[simp] noncomputable def zaf(n:Nat)(n2:Nat)(i:Int)(v:AV):=aE env.P .neq n (Operand.tmp n2) (Operand.const (Value.int IntKind.i64 i)) (some v) (some (AV.v (Value.int IntKind.i64 i)))
@[simp] noncomputable def zag(v:AV)(v2:AV):=bp (some v) (some v2) (some (AV.v (Value.bool false)))
@[simp] noncomputable def zah(h:ab)(n:Nat)(n2:Nat)(v:AV):=aK env.P false (ab.get h) (Ref.mk 0 n (ab.gen h 0 n) 0) .len #[n2] [v]
@[simp] noncomputable def zai(n:Nat)(n2:Nat)(i:Int)(v:AV):=aE env.P .eql n (Operand.tmp n2) (Operand.const (Value.int IntKind.i64 i)) (some v) (some (AV.v (Value.int IntKind.i64 i)))
@[simp] noncomputable def zaj(h:ab)(n:Nat)(n2:Nat):=bl h (Ref.mk 0 n (ab.gen h 0 n) 0) (bX env.P (Ref.mk 0 n (ab.gen h 0 n) 0) n2)
@[simp] noncomputable def zak(h:ab)(n:Nat)(n2:Nat)(n3:Nat)(v:AV):=bl h (Ref.mk (n+1) n2 (ab.gen h (n+1) n2) 0) (cB env.P (Ref.mk (n+1) n2 (ab.gen h (n+1) n2) 0) n3 (some v))
@[simp] noncomputable def zal(v:AV)(v2:AV):=bp (some v) (some (AV.v (Value.bool true))) (some v2)
@[simp] noncomputable def zam(h:ab)(n:Nat)(v:AV)(v2:AV):=aW env.P h n (some v) (some v2)
@[simp] noncomputable def zan(n:Nat)(n2:Nat)(n3:Nat)(v:AV)(v2:AV):=aE env.P .lss n (Operand.tmp n2) (Operand.tmp n3) (some v) (some v2)
@[simp] noncomputable def zao(n:Nat)(n2:Nat)(i:Int)(v:AV):=aE env.P .geq n (Operand.tmp n2) (Operand.const (Value.int IntKind.i64 i)) (some v) (some (AV.v (Value.int IntKind.i64 i)))
@[simp] noncomputable def zap(n:Nat)(n2:Nat)(n3:Nat)(v:AV)(v2:AV):=aE env.P .eql n (Operand.tmp n2) (Operand.tmp n3) (some v) (some v2)
@[simp] noncomputable def zaq(h:ab)(n:Nat)(n2:Nat)(n3:Nat):=bl h (Ref.mk (n+1) n2 (ab.gen h (n+1) n2) 0) (bX env.P (Ref.mk (n+1) n2 (ab.gen h (n+1) n2) 0) n3)
@[simp] noncomputable def zar(n:Nat)(n2:Nat)(i:Int)(v:AV):=aE env.P .gtr n (Operand.tmp n2) (Operand.const (Value.int IntKind.i64 i)) (some v) (some (AV.v (Value.int IntKind.i64 i)))
@[simp] noncomputable def zas(h:ab)(n:Nat)(n2:Nat)(n3:Nat)(v:AV)(v2:AV):=cQ env.P true h (Ref.mk 0 n (ab.gen h 0 n) 0) (some n2) (some n3) v v2
@[simp] noncomputable def zat(n:Nat)(n2:Nat)(i:Int)(v:AV):=aE env.P .lss n (Operand.tmp n2) (Operand.const (Value.int IntKind.i64 i)) (some v) (some (AV.v (Value.int IntKind.i64 i)))
@[simp] noncomputable def zau(h:ab)(n:Nat)(v:AV)(v2:AV):=aH env.P (ab.get h) n (some v) (some v2)
@[simp] noncomputable def zav(h:ab)(n:Nat)(v:AV)(i:Int):=aH env.P (ab.get h) n (some v) (some (AV.v (Value.int IntKind.i64 i)))
@[simp] noncomputable def zaw(h:ab)(n:Nat)(n2:Nat)(n3:Nat)(n4:Nat)(v:AV):=eX env.P false true h (Ref.mk 0 n (ab.gen h 0 n) 0) n2 n3 (some [(n4,v)])
@[simp] noncomputable def zax(n:Nat)(n2:Nat)(i:Int)(v:AV):=aE env.P .sub n (Operand.tmp n2) (Operand.const (Value.int IntKind.i64 i)) (some v) (some (AV.v (Value.int IntKind.i64 i)))
@[simp] noncomputable def zay(h:ab)(n:Nat)(n2:Nat)(n3:Nat)(v:AV):=cS env.P (ab.get h) (Ref.mk 0 n (ab.gen h 0 n) 0) n2 n3 (some v)
@[simp] noncomputable def zaz(n:Nat)(n2:Nat)(i:Int)(v:AV):=aE env.P .leq n (Operand.tmp n2) (Operand.const (Value.int IntKind.i64 i)) (some v) (some (AV.v (Value.int IntKind.i64 i)))
@[simp] noncomputable def zba(n:Nat)(n2:Nat)(n3:Nat)(v:AV)(v2:AV):=aE env.P .add n (Operand.tmp n2) (Operand.tmp n3) (some v) (some v2)
@[simp] noncomputable def zbb(h:ab)(n:Nat)(n2:Nat)(n3:Nat)(v:AV):=aK env.P false (ab.get h) (Ref.mk (n+1) n2 (ab.gen h (n+1) n2) 0) .len #[n3] [v]
@[simp] noncomputable def zbc(n:Nat)(n2:Nat)(n3:Nat)(v:AV)(v2:AV):=aE env.P .neq n (Operand.tmp n2) (Operand.tmp n3) (some v) (some v2)
@[simp] noncomputable def zbd(v:AV)(n:Nat):=aJ (some v) n
@[simp] noncomputable def zbe(h:ab)(n:Nat)(v:AV)(v2:AV):=bn env true (bj env) (bU env 0) h (Ref.mk 0 n (ab.gen h 0 n) 0) (some v) [v2]
@[simp] noncomputable def zbf(n:Nat)(n2:Nat)(n3:Nat)(v:AV)(v2:AV):=aE env.P .sub n (Operand.tmp n2) (Operand.tmp n3) (some v) (some v2)
@[simp] noncomputable def zbg(v:AV):=xj env.P .not (some v)
@[simp] noncomputable def zbh(h:ab)(n:Nat)(v:AV)(v2:AV):=eS env.P (ab.get h) n (some v) (some none) (oi v2) (some none)
@[simp] noncomputable def zbi(v:AV):=cf (some v)
@[simp] noncomputable def zbj(h:ab)(n:Nat)(v:AV)(v2:AV):=cY env.P (ab.get h) n (some v) (some v2) false
@[simp] noncomputable def zbk(n:Nat)(n2:Nat)(v:AV):=aE env.P .eql n (Operand.tmp n2) (.const (.int .u8 1)) (some v) (some (a8 1))
@[simp] noncomputable def zbl(n:Nat)(n2:Nat)(v:AV):=aE env.P .eql n (Operand.tmp n2) (.const (.int .u8 3)) (some v) (some (a8 3))
@[simp] noncomputable def zbm(n:Nat)(h:ab)(n2:Nat)(v:AV):=bn env true (bj env) (bU env (n+1)) h (Ref.mk (n+1) n2 (ab.gen h (n+1) n2) 0) (some (.fn (.func 130) [] [])) [v]
@[simp] noncomputable def zbn(h:ab)(n:Nat)(n2:Nat):=bl h (Ref.mk (n+1) n2 (ab.gen h (n+1) n2) 0) (some (.mp (Ref.mk (n+1) n2 (ab.gen h (n+1) n2) 0),[bt []]))
@[simp] noncomputable def zbo(h:ab)(n:Nat)(n2:Nat)(n3:Nat)(n4:Nat)(v:AV)(n5:Nat)(v2:AV)(n6:Nat)(v3:AV):=eX env.P false true h (Ref.mk 0 n (ab.gen h 0 n) 0) n2 n3 (some [(n4,v),(n5,v2),(n6,v3)])
@[simp] noncomputable def zbp(n:Nat)(n2:Nat)(v:AV):=aE env.P .eql n (Operand.tmp n2) (.const (.slice none 0 0)) (some v) (some (.v (.slice none 0 0)))
@[simp] noncomputable def zbq(n:Nat)(n2:Nat)(n3:Nat)(v:AV)(v2:AV):=aE env.P .geq n (Operand.tmp n2) (Operand.tmp n3) (some v) (some v2)
@[simp] noncomputable def zbr(h:ab)(n:Nat)(n2:Nat)(n3:Nat)(n4:Nat)(v:AV)(v2:AV):=cQ env.P true h (Ref.mk (n+1) n2 (ab.gen h (n+1) n2) 0) (some n3) (some n4) v v2
@[simp] noncomputable def zbs(n:Nat)(h:ab)(n2:Nat)(v:AV)(v2:AV)(v3:AV):=bn env true (bj env) (bU env (n+1)) h (Ref.mk (n+1) n2 (ab.gen h (n+1) n2) 0) (some v) [v2,v3]
@[simp] noncomputable def zbt(n:Nat)(h:ab)(n2:Nat)(v:AV)(v2:AV):=bn env true (bj env) (bU env (n+1)) h (Ref.mk (n+1) n2 (ab.gen h (n+1) n2) 0) (some v) [v2]
@[simp] noncomputable def zbu(n:Nat)(n2:Nat)(v:AV):=aE env.P .shr n (Operand.tmp n2) (.const (.int .u64 8)) (some v) (some (.v (.int .u64 8)))
@[simp] noncomputable def zbv(h:ab)(n:Nat)(n2:Nat)(v:AV):=aK env.P false (ab.get h) (Ref.mk 0 n (ab.gen h 0 n) 0) .cap #[n2] [v]
@[simp] noncomputable def zbw(n:Nat)(i:Int)(n2:Nat)(v:AV):=aE env.P .mul n (Operand.const (Value.int IntKind.i64 i)) (Operand.tmp n2) (some (AV.v (Value.int IntKind.i64 i))) (some v)
@[simp] noncomputable def zbx(n:Nat)(n2:Nat)(i:Int)(v:AV):=aE kA.P .add n (Operand.tmp n2) (Operand.const (Value.int IntKind.i64 i)) (some v) (some (AV.v (Value.int IntKind.i64 i)))
@[simp] noncomputable def zby(n:Nat)(h:ab)(n2:Nat)(v:AV)(v2:AV):=bn env false (bj env) (bU env (n+1)) h (Ref.mk (n+1) n2 (ab.gen h (n+1) n2) 0) (some (.fn (.func 92) [] [])) [v,v2]
@[simp] noncomputable def zbz(n:Nat)(h:ab)(n2:Nat)(v:AV)(v2:AV):=bn env false (bj env) (bU env (n+1)) h (Ref.mk (n+1) n2 (ab.gen h (n+1) n2) 0) (some (.fn (.func 80) [] [])) [v,v2]
@[simp] noncomputable def zca(n:Nat)(h:ab)(n2:Nat)(v:AV)(v2:AV)(v3:AV):=bn env true (bj env) (bU env (n+1)) h (Ref.mk (n+1) n2 (ab.gen h (n+1) n2) 0) (some (.fn (.func 154) [] [])) [v,v2,v3]
@[simp] noncomputable def zcb(n:Nat)(h:ab)(n2:Nat)(v:AV)(v2:AV):=bn env true (bj env) (bU env (n+1)) h (Ref.mk (n+1) n2 (ab.gen h (n+1) n2) 0) (some (.fn (.func 156) [] [])) [v,v2]
@[simp] noncomputable def zcc(n:Nat)(h:ab)(n2:Nat)(v:AV)(v2:AV):=bn env true (bj env) (bU env (n+1)) h (Ref.mk (n+1) n2 (ab.gen h (n+1) n2) 0) (some (.fn (.func 20) [] [])) [v,v2]
@[simp] noncomputable def zcd(v:AV):=jX (some v)
@[simp] noncomputable def zce(n:Nat)(h:ab)(n2:Nat)(v:AV)(v2:AV):=bn env true (bj env) (bU env (n+1)) h (Ref.mk (n+1) n2 (ab.gen h (n+1) n2) 0) (some (.fn (.func 158) [] [])) [v,v2]
@[simp] noncomputable def zcf(n:Nat)(h:ab)(n2:Nat)(v:AV)(v2:AV):=bn env true (bj env) (bU env (n+1)) h (Ref.mk (n+1) n2 (ab.gen h (n+1) n2) 0) (some (.fn (.func 72) [] [])) [v,v2]
@[simp] noncomputable def zcg(h:ab)(n:Nat)(n2:Nat)(n3:Nat)(n4:Nat)(n5:Nat)(v:AV):=eX env.P true false h (Ref.mk (n+1) n2 (ab.gen h (n+1) n2) 0) n3 n4 (some [(n5,v)])
@[simp] noncomputable def zch(n:Nat):=cy env.P n (some [])
@[simp] noncomputable def zci(h:ab)(n:Nat)(n2:Nat)(n3:Nat)(v:AV)(v2:AV):=aK env.P true (ab.get h) (Ref.mk 0 n (ab.gen h 0 n) 0) .max #[n2,n3] [v,v2]
@[simp] noncomputable def zcj(n:Nat)(n2:Nat)(v:AV):=aE env.P .shr n (Operand.tmp n2) (.const (.int .u64 16)) (some v) (some (.v (.int .u64 16)))
@[simp] noncomputable def zck(h:ab)(n:Nat)(n2:Nat)(n3:Nat):=eX env.P false true h (Ref.mk 0 n (ab.gen h 0 n) 0) n2 n3 (some [])
@[simp] noncomputable def zcl(n:Nat)(n2:Nat)(v:AV):=cy env.P n (some [(n2,v)])
@[simp] noncomputable def zcm(h:ab)(v:AV)(n:Nat):=cR env.P h v n
@[simp] noncomputable def zcn(h:ab)(v:AV)(v2:AV)(v3:AV):=df h (some v) (some v2) (some v3)
@[simp] noncomputable def zco(h:ab)(n:Nat)(v:AV)(v2:AV):=eC env.P h n (some v) (some v2)
@[simp] noncomputable def zcp(n:Nat)(v:AV)(n2:Nat):=lg env.P n (some v) n2
@[simp] noncomputable def zcq(h:ab)(n:Nat)(v:AV):=aj kA.P (ab.get h) n (some v)
@[simp] theorem Z1:kA.P=env.P:=id rfl
@[simp] theorem X1:aU env.P 3=(some 1):=by kernel_rfl
@[simp] theorem ZF:dA env.P 3=(some false):=by kernel_rfl
@[simp] theorem YX:lU env.P 3=(some 1):=by kernel_rfl
@[simp] theorem YY:isInt env.P 3=true:=by kernel_rfl
@[simp] theorem UP:intKind env.P 3=(some .i64):=by kernel_rfl
@[simp] theorem ZA:(env.P.underlying 3).isNone=false:=by kernel_rfl
@[simp] theorem X0:aU env.P 4=(some 1):=by kernel_rfl
@[simp] theorem ZE:dA env.P 4=(some false):=by kernel_rfl
@[simp] theorem YW:lU env.P 4=(some 0):=by kernel_rfl
@[simp] theorem W6:isBool env.P 4=true:=by kernel_rfl
@[simp] theorem XZ:aU env.P 5=(some 1):=by kernel_rfl
@[simp] theorem ZD:dA env.P 5=(some false):=by kernel_rfl
@[simp] theorem YV:lU env.P 5=(some 1):=by kernel_rfl
@[simp] theorem UO:intKind env.P 5=(some .u8):=by kernel_rfl
@[simp] theorem L0:aU env.P 21=(some 1):=by kernel_rfl
@[simp] theorem Pd:dA env.P 21=(some false):=by kernel_rfl
@[simp] theorem S1:intKind env.P 21=(some .i32):=by kernel_rfl
@[simp] theorem XX:(env.P.underlying 21).isNone=false:=by kernel_rfl
@[simp] theorem VS:aU env.P 22=(some 4):=by kernel_rfl
@[simp] theorem YC:dA env.P 22=(some true):=by kernel_rfl
@[simp] theorem VV:dW env.P 22=none:=by kernel_rfl
@[simp] theorem Yk:iv env.P 22=(some (4,3)):=by kernel_rfl
@[simp] theorem Vy:eD env.P 22=(some (.agg [(.v (.int .i64 0)),(.v (.int .i64 0)),(.v (.int .i64 0)),(.v (.int .i64 0))])):=by kernel_rfl
@[simp] theorem VQ:aU env.P 23=(some 1):=by kernel_rfl
@[simp] theorem YB:dA env.P 23=(some false):=by kernel_rfl
@[simp] theorem WX:lU env.P 23=(some 1):=by kernel_rfl
@[simp] theorem S0:intKind env.P 23=(some .i64):=by kernel_rfl
@[simp] theorem XW:(env.P.underlying 23).isNone=false:=by kernel_rfl
@[simp] theorem VP:aU env.P 26=(some 1):=by kernel_rfl
@[simp] theorem YA:dA env.P 26=(some false):=by kernel_rfl
@[simp] theorem L4:dW env.P 26=(some 52):=by kernel_rfl
@[simp] theorem Yj:iv env.P 26=none:=by kernel_rfl
@[simp] theorem W5:isStr env.P 26=false:=by kernel_rfl
@[simp] theorem aan:CQ env.P 26=true:=by kernel_rfl
@[simp] theorem Zg:nK env.P 26=true:=by kernel_rfl
@[simp] theorem Z7:lB env.P 26=3:=by kernel_rfl
@[simp] theorem Zm:p9 env.P 26=12:=by kernel_rfl
@[simp] theorem U8:iG env.P 26=(.agg [(a8 0),(aF 0),(.v (.bool false))]):=by kernel_rfl
@[simp] theorem VO:aU env.P 27=(some 1):=by kernel_rfl
@[simp] theorem Yz:dA env.P 27=(some false):=by kernel_rfl
@[simp] theorem L3:dW env.P 27=(some 76):=by kernel_rfl
@[simp] theorem Yi:iv env.P 27=none:=by kernel_rfl
@[simp] theorem W4:isStr env.P 27=false:=by kernel_rfl
@[simp] theorem aam:CQ env.P 27=true:=by kernel_rfl
@[simp] theorem Zf:nK env.P 27=true:=by kernel_rfl
@[simp] theorem Z6:lB env.P 27=5:=by kernel_rfl
@[simp] theorem Zl:p9 env.P 27=32:=by kernel_rfl
@[simp] theorem U7:iG env.P 27=(.agg [(a8 0),(aF 0),(.v (.int .i64 0)),(.v (.int .i64 0)),(.v (.int .i64 0))]):=by kernel_rfl
@[simp] theorem VN:aU env.P 29=(some 3):=by kernel_rfl
@[simp] theorem Yy:dA env.P 29=(some true):=by kernel_rfl
@[simp] theorem Yh:iv env.P 29=none:=by kernel_rfl
@[simp] theorem Vx:eD env.P 29=(some (.agg [(.v (.slice none 0 0)),(.v (.slice none 0 0)),(.v (.int .i64 0))])):=by kernel_rfl
@[simp] theorem Hk:fQ env.P 29=(some [26,27,3]):=by kernel_rfl
@[simp] theorem UA:fq env.P 29=(some [(0,1),(1,1),(2,1)]):=by kernel_rfl
@[simp] theorem RE:aM env.P 29 0=(some (0,1)):=by kernel_rfl
@[simp] theorem Rs:aM env.P 29 1=(some (1,1)):=by kernel_rfl
@[simp] theorem Rf:aM env.P 29 2=(some (2,1)):=by kernel_rfl
@[simp] theorem VM:aU env.P 31=(some 1):=by kernel_rfl
@[simp] theorem Yx:dA env.P 31=(some false):=by kernel_rfl
@[simp] theorem L2:dW env.P 31=(some 56):=by kernel_rfl
@[simp] theorem Yg:iv env.P 31=none:=by kernel_rfl
@[simp] theorem W3:isStr env.P 31=false:=by kernel_rfl
@[simp] theorem aal:CQ env.P 31=true:=by kernel_rfl
@[simp] theorem Ze:nK env.P 31=true:=by kernel_rfl
@[simp] theorem Z5:lB env.P 31=24:=by kernel_rfl
@[simp] theorem Zk:p9 env.P 31=160:=by kernel_rfl
@[simp] theorem U6:iG env.P 31=(.agg [(a8 0),(.v (.int .i64 0)),(a8 0),(a8 0),(aF 0),(a8 0),(.v (.int .i64 0)),(a8 0),(aF 0),(a8 0),(.v (.int .i64 0)),(.v (.int .i64 0)),(a8 0),(aF 0),(a8 0),(.v (.int .i64 0)),(a8 0),(aF 0),(.v (.slice none 0 0)),(.v (.int .i64 0)),(.v (.int .i64 0)),(a8 0),(aF 0),(.v (.bool false))]):=by kernel_rfl
@[simp] theorem VL:aU env.P 33=(some 1):=by kernel_rfl
@[simp] theorem Yw:dA env.P 33=(some false):=by kernel_rfl
@[simp] theorem WW:lU env.P 33=(some 1):=by kernel_rfl
@[simp] theorem SZ:intKind env.P 33=(some .u32):=by kernel_rfl
@[simp] theorem XV:(env.P.underlying 33).isNone=false:=by kernel_rfl
@[simp] theorem VK:aU env.P 35=(some 2):=by kernel_rfl
@[simp] theorem Yv:dA env.P 35=(some true):=by kernel_rfl
@[simp] theorem Yf:iv env.P 35=none:=by kernel_rfl
@[simp] theorem Vw:eD env.P 35=(some (.agg [(a8 0),(aF 0)])):=by kernel_rfl
@[simp] theorem WV:lU env.P 35=none:=by kernel_rfl
@[simp] theorem Y5:AH env.P 35=true:=by kernel_rfl
@[simp] theorem Hj:fQ env.P 35=(some [5,33]):=by kernel_rfl
@[simp] theorem Uz:fq env.P 35=(some [(0,1),(1,1)]):=by kernel_rfl
@[simp] theorem RD:aM env.P 35 0=(some (0,1)):=by kernel_rfl
@[simp] theorem Rr:aM env.P 35 1=(some (1,1)):=by kernel_rfl
@[simp] theorem VU:dW env.P 36=(some 67):=by kernel_rfl
@[simp] theorem Ye:iv env.P 36=none:=by kernel_rfl
@[simp] theorem W2:isStr env.P 36=false:=by kernel_rfl
@[simp] theorem aak:CQ env.P 36=true:=by kernel_rfl
@[simp] theorem Zd:nK env.P 36=true:=by kernel_rfl
@[simp] theorem Z4:lB env.P 36=5:=by kernel_rfl
@[simp] theorem Zj:p9 env.P 36=32:=by kernel_rfl
@[simp] theorem U5:iG env.P 36=(.agg [(a8 0),(aF 0),(a8 0),(.v (.int .i64 0)),(.v (.int .i64 0))]):=by kernel_rfl
@[simp] theorem VJ:aU env.P 40=(some 3):=by kernel_rfl
@[simp] theorem Yu:dA env.P 40=(some true):=by kernel_rfl
@[simp] theorem Yd:iv env.P 40=none:=by kernel_rfl
@[simp] theorem Vv:eD env.P 40=(some (.agg [(a8 0),(aF 0),(a8 0)])):=by kernel_rfl
@[simp] theorem WU:lU env.P 40=none:=by kernel_rfl
@[simp] theorem Y4:AH env.P 40=true:=by kernel_rfl
@[simp] theorem Hi:fQ env.P 40=(some [35,5]):=by kernel_rfl
@[simp] theorem Uy:fq env.P 40=(some [(0,2),(2,1)]):=by kernel_rfl
@[simp] theorem QN:ma env.P 40 0=(some (0,35)):=by kernel_rfl
@[simp] theorem RC:aM env.P 40 0=(some (0,2)):=by kernel_rfl
@[simp] theorem Rq:aM env.P 40 1=(some (2,1)):=by kernel_rfl
@[simp] theorem VI:aU env.P 45=(some 4):=by kernel_rfl
@[simp] theorem Yt:dA env.P 45=(some true):=by kernel_rfl
@[simp] theorem Yc:iv env.P 45=none:=by kernel_rfl
@[simp] theorem Vu:eD env.P 45=(some (.agg [(a8 0),(aF 0),(a8 0),(.v (.int .i64 0))])):=by kernel_rfl
@[simp] theorem WT:lU env.P 45=none:=by kernel_rfl
@[simp] theorem Y3:AH env.P 45=true:=by kernel_rfl
@[simp] theorem Hh:fQ env.P 45=(some [40,3]):=by kernel_rfl
@[simp] theorem Ux:fq env.P 45=(some [(0,3),(3,1)]):=by kernel_rfl
@[simp] theorem RB:aM env.P 45 0=(some (0,3)):=by kernel_rfl
@[simp] theorem Rp:aM env.P 45 1=(some (3,1)):=by kernel_rfl
@[simp] theorem VH:aU env.P 47=(some 5):=by kernel_rfl
@[simp] theorem Ys:dA env.P 47=(some true):=by kernel_rfl
@[simp] theorem Yb:iv env.P 47=none:=by kernel_rfl
@[simp] theorem Vt:eD env.P 47=(some (.agg [(a8 0),(aF 0),(a8 0),(.v (.int .i64 0)),(.v (.int .i64 0))])):=by kernel_rfl
@[simp] theorem WS:lU env.P 47=none:=by kernel_rfl
@[simp] theorem Y2:AH env.P 47=true:=by kernel_rfl
@[simp] theorem Hg:fQ env.P 47=(some [45,3]):=by kernel_rfl
@[simp] theorem Uw:fq env.P 47=(some [(0,4),(4,1)]):=by kernel_rfl
@[simp] theorem RA:aM env.P 47 0=(some (0,4)):=by kernel_rfl
@[simp] theorem Ro:aM env.P 47 1=(some (4,1)):=by kernel_rfl
@[simp] theorem VG:aU env.P 48=(some 1):=by kernel_rfl
@[simp] theorem Yr:dA env.P 48=(some false):=by kernel_rfl
@[simp] theorem L1:dW env.P 48=(some 21):=by kernel_rfl
@[simp] theorem Ya:iv env.P 48=none:=by kernel_rfl
@[simp] theorem W1:isStr env.P 48=false:=by kernel_rfl
@[simp] theorem aaj:CQ env.P 48=true:=by kernel_rfl
@[simp] theorem Zc:nK env.P 48=true:=by kernel_rfl
@[simp] theorem Z3:lB env.P 48=1:=by kernel_rfl
@[simp] theorem Zi:p9 env.P 48=4:=by kernel_rfl
@[simp] theorem U4:iG env.P 48=(.v (.int .i32 0)):=by kernel_rfl
@[simp] theorem VF:aU env.P 50=(some 17):=by kernel_rfl
@[simp] theorem Yq:dA env.P 50=(some true):=by kernel_rfl
@[simp] theorem X9:iv env.P 50=none:=by kernel_rfl
@[simp] theorem Vs:eD env.P 50=(some (.agg [(a8 0),(a8 0),(aF 0),(a8 0),(.v (.int .i64 0)),(a8 0),(aF 0),(a8 0),(.v (.int .i64 0)),(.v (.int .i64 0)),(a8 0),(aF 0),(a8 0),(.v (.int .i64 0)),(a8 0),(aF 0),(.v (.slice none 0 0))])):=by kernel_rfl
@[simp] theorem Hf:fQ env.P 50=(some [5,40,3,47,45,35,48]):=by kernel_rfl
@[simp] theorem Uv:fq env.P 50=(some [(0,1),(1,3),(4,1),(5,5),(10,4),(14,2),(16,1)]):=by kernel_rfl
@[simp] theorem Rz:aM env.P 50 0=(some (0,1)):=by kernel_rfl
@[simp] theorem Rm:aM env.P 50 1=(some (1,3)):=by kernel_rfl
@[simp] theorem Re:aM env.P 50 2=(some (4,1)):=by kernel_rfl
@[simp] theorem Q9:aM env.P 50 3=(some (5,5)):=by kernel_rfl
@[simp] theorem Q5:aM env.P 50 4=(some (10,4)):=by kernel_rfl
@[simp] theorem Q2:aM env.P 50 5=(some (14,2)):=by kernel_rfl
@[simp] theorem Q0:aM env.P 50 6=(some (16,1)):=by kernel_rfl
@[simp] theorem LZ:aU env.P 52=(some 3):=by kernel_rfl
@[simp] theorem Pc:dA env.P 52=(some true):=by kernel_rfl
@[simp] theorem X8:iv env.P 52=none:=by kernel_rfl
@[simp] theorem Vr:eD env.P 52=(some (.agg [(a8 0),(aF 0),(.v (.bool false))])):=by kernel_rfl
@[simp] theorem WR:lU env.P 52=none:=by kernel_rfl
@[simp] theorem Af:fQ env.P 52=(some [35,4]):=by kernel_rfl
@[simp] theorem Uu:fq env.P 52=(some [(0,2),(2,1)]):=by kernel_rfl
@[simp] theorem Ry:aM env.P 52 0=(some (0,2)):=by kernel_rfl
@[simp] theorem Rl:aM env.P 52 1=(some (2,1)):=by kernel_rfl
@[simp] theorem VE:aU env.P 54=(some 4):=by kernel_rfl
@[simp] theorem Yp:dA env.P 54=(some true):=by kernel_rfl
@[simp] theorem WQ:lU env.P 54=none:=by kernel_rfl
@[simp] theorem Y1:AH env.P 54=true:=by kernel_rfl
@[simp] theorem He:fQ env.P 54=(some [3,52]):=by kernel_rfl
@[simp] theorem Rx:aM env.P 54 0=(some (0,1)):=by kernel_rfl
@[simp] theorem Rk:aM env.P 54 1=(some (1,3)):=by kernel_rfl
@[simp] theorem LY:aU env.P 56=(some 24):=by kernel_rfl
@[simp] theorem Pb:dA env.P 56=(some true):=by kernel_rfl
@[simp] theorem X7:iv env.P 56=none:=by kernel_rfl
@[simp] theorem Vq:eD env.P 56=(some (.agg [(a8 0),(.v (.int .i64 0)),(a8 0),(a8 0),(aF 0),(a8 0),(.v (.int .i64 0)),(a8 0),(aF 0),(a8 0),(.v (.int .i64 0)),(.v (.int .i64 0)),(a8 0),(aF 0),(a8 0),(.v (.int .i64 0)),(a8 0),(aF 0),(.v (.slice none 0 0)),(.v (.int .i64 0)),(.v (.int .i64 0)),(a8 0),(aF 0),(.v (.bool false))])):=by kernel_rfl
@[simp] theorem Hd:fQ env.P 56=(some [5,3,50,23,54]):=by kernel_rfl
@[simp] theorem Ut:fq env.P 56=(some [(0,1),(1,1),(2,17),(19,1),(20,4)]):=by kernel_rfl
@[simp] theorem Rw:aM env.P 56 0=(some (0,1)):=by kernel_rfl
@[simp] theorem Rj:aM env.P 56 1=(some (1,1)):=by kernel_rfl
@[simp] theorem Rd:aM env.P 56 2=(some (2,17)):=by kernel_rfl
@[simp] theorem Q8:aM env.P 56 3=(some (19,1)):=by kernel_rfl
@[simp] theorem Q4:aM env.P 56 4=(some (20,4)):=by kernel_rfl
@[simp] theorem VD:aU env.P 67=(some 5):=by kernel_rfl
@[simp] theorem Yo:dA env.P 67=(some true):=by kernel_rfl
@[simp] theorem X6:iv env.P 67=none:=by kernel_rfl
@[simp] theorem Vp:eD env.P 67=(some (.agg [(a8 0),(aF 0),(a8 0),(.v (.int .i64 0)),(.v (.int .i64 0))])):=by kernel_rfl
@[simp] theorem WO:lU env.P 67=none:=by kernel_rfl
@[simp] theorem RH:fQ env.P 67=(some [40,3,23]):=by kernel_rfl
@[simp] theorem Us:fq env.P 67=(some [(0,3),(3,1),(4,1)]):=by kernel_rfl
@[simp] theorem Rv:aM env.P 67 0=(some (0,3)):=by kernel_rfl
@[simp] theorem Ri:aM env.P 67 1=(some (3,1)):=by kernel_rfl
@[simp] theorem Rc:aM env.P 67 2=(some (4,1)):=by kernel_rfl
@[simp] theorem LX:aU env.P 76=(some 5):=by kernel_rfl
@[simp] theorem Pa:dA env.P 76=(some true):=by kernel_rfl
@[simp] theorem X5:iv env.P 76=none:=by kernel_rfl
@[simp] theorem Vo:eD env.P 76=(some (.agg [(a8 0),(aF 0),(.v (.int .i64 0)),(.v (.int .i64 0)),(.v (.int .i64 0))])):=by kernel_rfl
@[simp] theorem Hc:fQ env.P 76=(some [35,3,3,3]):=by kernel_rfl
@[simp] theorem Ur:fq env.P 76=(some [(0,2),(2,1),(3,1),(4,1)]):=by kernel_rfl
@[simp] theorem Ru:aM env.P 76 0=(some (0,2)):=by kernel_rfl
@[simp] theorem Rh:aM env.P 76 1=(some (2,1)):=by kernel_rfl
@[simp] theorem Rb:aM env.P 76 2=(some (3,1)):=by kernel_rfl
@[simp] theorem QM:ma env.P 76 3=(some (4,3)):=by kernel_rfl
@[simp] theorem Q7:aM env.P 76 3=(some (4,1)):=by kernel_rfl
@[simp] theorem VC:aU env.P 88=(some 1):=by kernel_rfl
@[simp] theorem Yn:dA env.P 88=(some false):=by kernel_rfl
@[simp] theorem VB:aU env.P 89=(some 1):=by kernel_rfl
@[simp] theorem Ym:dA env.P 89=(some false):=by kernel_rfl
@[simp] theorem VA:aU env.P 90=(some 1):=by kernel_rfl
@[simp] theorem Yl:dA env.P 90=(some false):=by kernel_rfl
@[simp] theorem VT:dW env.P 90=(some 50):=by kernel_rfl
@[simp] theorem X4:iv env.P 90=none:=by kernel_rfl
@[simp] theorem W0:isStr env.P 90=false:=by kernel_rfl
@[simp] theorem aai:CQ env.P 90=true:=by kernel_rfl
@[simp] theorem Zb:nK env.P 90=true:=by kernel_rfl
@[simp] theorem Z2:lB env.P 90=17:=by kernel_rfl
@[simp] theorem Zh:p9 env.P 90=112:=by kernel_rfl
@[simp] theorem U3:iG env.P 90=(.agg [(a8 0),(a8 0),(aF 0),(a8 0),(.v (.int .i64 0)),(a8 0),(aF 0),(a8 0),(.v (.int .i64 0)),(.v (.int .i64 0)),(a8 0),(aF 0),(a8 0),(.v (.int .i64 0)),(a8 0),(aF 0),(.v (.slice none 0 0))]):=by kernel_rfl
@[simp] theorem Vz:aU env.P 92=(some 10):=by kernel_rfl
@[simp] theorem X3:iv env.P 92=none:=by kernel_rfl
@[simp] theorem Vn:eD env.P 92=(some (.agg [(.v (.slice none 0 0)),(.v (.slice none 0 0)),(.v (.int .i64 0)),(.v (.slice none 0 0)),(.v (.slice none 0 0)),(.v (.int .i64 0)),(.v (.slice none 0 0)),(.v (.map none)),(.v (.map none)),(.v (.slice none 0 0))])):=by kernel_rfl
@[simp] theorem Uq:fq env.P 92=(some [(0,3),(3,3),(6,1),(7,1),(8,1),(9,1)]):=by kernel_rfl
@[simp] theorem Rt:aM env.P 92 0=(some (0,3)):=by kernel_rfl
@[simp] theorem Rg:aM env.P 92 1=(some (3,3)):=by kernel_rfl
@[simp] theorem Ra:aM env.P 92 2=(some (6,1)):=by kernel_rfl
@[simp] theorem Q6:aM env.P 92 3=(some (7,1)):=by kernel_rfl
@[simp] theorem Q3:aM env.P 92 4=(some (8,1)):=by kernel_rfl
@[simp] theorem Q1:aM env.P 92 5=(some (9,1)):=by kernel_rfl
@[simp] theorem T7:aU env.P 105=(some 1):=by kernel_rfl
@[simp] theorem Wg:dA env.P 105=(some false):=by kernel_rfl
@[simp] theorem T6:aU env.P 106=(some 1):=by kernel_rfl
@[simp] theorem Wf:dA env.P 106=(some false):=by kernel_rfl
@[simp] theorem O8:ma env.P 108 0=(some (0,105)):=by kernel_rfl
@[simp] theorem O5:ma env.P 108 1=(some (1,106)):=by kernel_rfl
@[simp] theorem T5:aU env.P 112=(some 1):=by kernel_rfl
@[simp] theorem We:dA env.P 112=(some false):=by kernel_rfl
@[simp] theorem T4:aU env.P 119=(some 3):=by kernel_rfl
@[simp] theorem Wd:dA env.P 119=(some true):=by kernel_rfl
@[simp] theorem V5:iv env.P 119=none:=by kernel_rfl
@[simp] theorem TQ:eD env.P 119=(some (.agg [(.v (.bool false)),(.v (.int .i64 0)),(.v (.int .i64 0))])):=by kernel_rfl
@[simp] theorem Sv:fq env.P 119=(some [(0,1),(1,1),(2,1)]):=by kernel_rfl
@[simp] theorem O7:ma env.P 119 0=(some (0,4)):=by kernel_rfl
@[simp] theorem Ql:aM env.P 119 0=(some (0,1)):=by kernel_rfl
@[simp] theorem Qh:aM env.P 119 1=(some (1,1)):=by kernel_rfl
@[simp] theorem Qe:aM env.P 119 2=(some (2,1)):=by kernel_rfl
@[simp] theorem T3:aU env.P 137=(some 1):=by kernel_rfl
@[simp] theorem Wc:dA env.P 137=(some false):=by kernel_rfl
@[simp] theorem Uc:dW env.P 137=(some 5):=by kernel_rfl
@[simp] theorem V4:iv env.P 137=none:=by kernel_rfl
@[simp] theorem UN:isStr env.P 137=false:=by kernel_rfl
@[simp] theorem Zx:CQ env.P 137=true:=by kernel_rfl
@[simp] theorem Xx:nK env.P 137=true:=by kernel_rfl
@[simp] theorem Za:lB env.P 137=1:=by kernel_rfl
@[simp] theorem XA:p9 env.P 137=1:=by kernel_rfl
@[simp] theorem Tn:iG env.P 137=(a8 0):=by kernel_rfl
@[simp] theorem T2:aU env.P 140=(some 24):=by kernel_rfl
@[simp] theorem V3:iv env.P 140=none:=by kernel_rfl
@[simp] theorem TP:eD env.P 140=(some (.agg [(a8 0),(.v (.int .i64 0)),(a8 0),(a8 0),(aF 0),(a8 0),(.v (.int .i64 0)),(a8 0),(aF 0),(a8 0),(.v (.int .i64 0)),(.v (.int .i64 0)),(a8 0),(aF 0),(a8 0),(.v (.int .i64 0)),(a8 0),(aF 0),(.v (.slice none 0 0)),(.v (.int .i64 0)),(.v (.int .i64 0)),(a8 0),(aF 0),(.v (.bool false))])):=by kernel_rfl
@[simp] theorem Su:fq env.P 140=(some [(0,24)]):=by kernel_rfl
@[simp] theorem Qk:aM env.P 140 0=(some (0,24)):=by kernel_rfl
@[simp] theorem Ub:dW env.P 148=(some 4):=by kernel_rfl
@[simp] theorem V2:iv env.P 148=none:=by kernel_rfl
@[simp] theorem UM:isStr env.P 148=false:=by kernel_rfl
@[simp] theorem Xw:nK env.P 148=true:=by kernel_rfl
@[simp] theorem Y9:lB env.P 148=1:=by kernel_rfl
@[simp] theorem Tm:iG env.P 148=(.v (.bool false)):=by kernel_rfl
@[simp] theorem Ua:dW env.P 166=(some 45):=by kernel_rfl
@[simp] theorem V1:iv env.P 166=none:=by kernel_rfl
@[simp] theorem UL:isStr env.P 166=false:=by kernel_rfl
@[simp] theorem Zw:CQ env.P 166=true:=by kernel_rfl
@[simp] theorem Xv:nK env.P 166=true:=by kernel_rfl
@[simp] theorem Y8:lB env.P 166=4:=by kernel_rfl
@[simp] theorem Xz:p9 env.P 166=24:=by kernel_rfl
@[simp] theorem Tl:iG env.P 166=(.agg [(a8 0),(aF 0),(a8 0),(.v (.int .i64 0))]):=by kernel_rfl
@[simp] theorem TZ:aU env.P 171=(some 10):=by kernel_rfl
@[simp] theorem Wb:dA env.P 171=(some true):=by kernel_rfl
@[simp] theorem V0:iv env.P 171=none:=by kernel_rfl
@[simp] theorem TO:eD env.P 171=(some (.agg [(a8 0),(aF 0),(a8 0),(.v (.int .i64 0)),(.v (.int .i64 0)),(a8 0),(aF 0),(a8 0),(.v (.int .i64 0)),(.v (.slice none 0 0))])):=by kernel_rfl
@[simp] theorem Ss:fq env.P 171=(some [(0,5),(5,4),(9,1)]):=by kernel_rfl
@[simp] theorem Qj:aM env.P 171 0=(some (0,5)):=by kernel_rfl
@[simp] theorem Qg:aM env.P 171 1=(some (5,4)):=by kernel_rfl
@[simp] theorem Qd:aM env.P 171 2=(some (9,1)):=by kernel_rfl
@[simp] theorem TY:aU env.P 178=(some 1):=by kernel_rfl
@[simp] theorem Wa:dA env.P 178=(some false):=by kernel_rfl
@[simp] theorem TX:aU env.P 179=(some 1):=by kernel_rfl
@[simp] theorem V9:dA env.P 179=(some false):=by kernel_rfl
@[simp] theorem TW:aU env.P 193=(some 1):=by kernel_rfl
@[simp] theorem V8:dA env.P 193=(some false):=by kernel_rfl
@[simp] theorem T9:dW env.P 193=(some 35):=by kernel_rfl
@[simp] theorem VZ:iv env.P 193=none:=by kernel_rfl
@[simp] theorem UK:isStr env.P 193=false:=by kernel_rfl
@[simp] theorem TN:eD env.P 193=(some (.v (.slice none 0 0))):=by kernel_rfl
@[simp] theorem Zv:CQ env.P 193=true:=by kernel_rfl
@[simp] theorem Xu:nK env.P 193=true:=by kernel_rfl
@[simp] theorem Y7:lB env.P 193=2:=by kernel_rfl
@[simp] theorem Xy:p9 env.P 193=8:=by kernel_rfl
@[simp] theorem Tk:iG env.P 193=(.agg [(a8 0),(aF 0)]):=by kernel_rfl
@[simp] theorem TV:aU env.P 196=(some 1):=by kernel_rfl
@[simp] theorem V7:dA env.P 196=(some false):=by kernel_rfl
@[simp] theorem TU:aU env.P 198=(some 2):=by kernel_rfl
@[simp] theorem VY:iv env.P 198=none:=by kernel_rfl
@[simp] theorem TM:eD env.P 198=(some (.agg [(.v (.slice none 0 0)),(.v (.map none))])):=by kernel_rfl
@[simp] theorem Sr:fq env.P 198=(some [(0,1),(1,1)]):=by kernel_rfl
@[simp] theorem Qi:aM env.P 198 0=(some (0,1)):=by kernel_rfl
@[simp] theorem Qf:aM env.P 198 1=(some (1,1)):=by kernel_rfl
@[simp] theorem TT:aU env.P 202=(some 2):=by kernel_rfl
@[simp] theorem V6:dA env.P 202=(some true):=by kernel_rfl
@[simp] theorem O6:ma env.P 202 0=(some (0,112)):=by kernel_rfl
@[simp] theorem VX:iv env.P 203=(some (4,202)):=by kernel_rfl
@[simp] theorem T8:dW env.P 209=(some 137):=by kernel_rfl
@[simp] theorem VW:iv env.P 209=none:=by kernel_rfl
@[simp] theorem UJ:isStr env.P 209=false:=by kernel_rfl
@[simp] theorem Xt:nK env.P 209=true:=by kernel_rfl
@[simp] theorem Y6:lB env.P 209=1:=by kernel_rfl
@[simp] theorem Tj:iG env.P 209=(.v (.slice none 0 0)):=by kernel_rfl
end Go.Proofs.YtdbiffjdomokfaaGreat
