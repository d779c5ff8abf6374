/-
  The facts on the program's types, computed. No statement of a seat is proved here.
-/
import Derived.Test.YtmkmimgokagimaaGreatRows
import Derived.Test.YtmkmimgokagimaaGreatAbsRules
set_option linter.unusedVariables false
set_option maxRecDepth 1000000
namespace Go.Proofs.YtmkmimgokagimaaGreat
open Go.Ab
def fns:List FuncId:=[4,5,7,8,10,11,12,13,14,15,17,19,21,22,23,24,25,26,27,28,29,30,31,32,33,34,35,42,43,44,45,46,47,49,52,55,56,57,58,59,60,61,62,63,64,65,66,68,69,70,71,72,73,74,75,76,77,78,80,81,82,83,84,85,86,87,88,89,90,91,92,93,94,95,96,97,98,99,100,101,102,103,104,105,106,107,108,109,110,111,112,113,114,115,116,117,118,119,120,121,122,123,124,125,126,127,130,131,132,133,134,135,136,137,138,139,140,141,142,143,144,145,146,147,148,149,150,151,152,153,154,155,156,157,158,159,160,161,162,163,164,165,166,167,168,169,170,171,172,173,174,175,176,177,178,179,180,181,182,183,184,185,186,187,188,189,190,191,192,193,194,195,196,197,198,199,200,201,202,203,204,205,206,207,208,209,210,211,212,213,214,215,216,217,218,219,220,221,222,223,224,225,226,227,228,229,230,231,232,233,234,235,236,237,238,239,240,241,242,243,244,245,246,247,248,249,250,251]
def cL:List FuncId:=[84,160,162,173,205,206,209,225]
def kN:List FuncId:=[64,65,69,71,72,75,77,81,83,87,88,90,92,95,97,98,100,145,146,147,148,149,150,151,153,172,193,218,219,220,230,232,233,234,241,242,250]
def A4:List (FuncId × List AV × AV):=[(53,[],.v (.bool true))]
noncomputable def env:Env:=zy Tryz.prog fns cL kN (JA [(19,13,18),(16,1,77777),(55,1,88888),(35,147,88889),(55,72,88889),(10,48,88889),(10,50,88889),(7,5,66666),(20,160,88889)]) (xM [(15,12,0,[(20,23)]),(52,10,0,[(56,58)]),(25,34,4,[(44,43)]),(6,21,0,[(16,4),(20,4),(17,4)]),(58,23,0,[(71,61),(4,61),(5,61),(5,68)]),(7,6,0,[(3,5)]),(64,16,17,[(5,66),(66,7)]),(143,16,25,[(5,145),(145,7),(145,9)])]) (PY [(19,13,18),(16,1,77777),(55,1,88888),(35,147,88889),(55,72,88889),(10,48,88889),(10,50,88889),(7,5,66666),(20,160,88889)]) A4 (fun _=>false) (fun _=>none) (fun _ _ _=>none) KL
@[simp] noncomputable def zaa(b:Bool)(h:ad)(n:Nat)(n2:Nat)(a:List AV):=bo env b (bj env) (bO env 0) h (Ref.mk 0 n (ad.gen h 0 n) 0) (some (AV.fn (Fn.func n2) [] [])) a
@[simp] noncomputable def zab(h:ad)(n:Nat)(v:AV):=aj env.P (ad.get h) n (some v)
@[simp] noncomputable def zac(h:ad)(n:Nat)(n2:Nat)(v:AV):=bg h (Ref.mk 0 n (ad.gen h 0 n) 0) (cd env.P (Ref.mk 0 n (ad.gen h 0 n) 0) n2 (some v))
@[simp] noncomputable def zad(n:Nat)(v:AV)(n2:Nat):=aa env.P n (some v) n2
@[simp] noncomputable def zae(n:Nat)(n2:Nat)(i:Int)(v:AV):=aH env.P .neq n (Operand.tmp n2) (Operand.const (Value.int IntKind.i64 i)) (some v) (some (AV.v (Value.int IntKind.i64 i)))
@[simp] noncomputable def zaf(n:Nat)(n2:Nat)(i:Int)(v:AV):=aH env.P .add n (Operand.tmp n2) (Operand.const (Value.int IntKind.i64 i)) (some v) (some (AV.v (Value.int IntKind.i64 i)))
@[simp] noncomputable def zag(v:AV)(v2:AV):=bp (some v) (some v2) (some (AV.v (Value.bool false)))
@[simp] noncomputable def zah(h:ad)(n:Nat)(n2:Nat):=bg h (Ref.mk 0 n (ad.gen h 0 n) 0) (bI env.P (Ref.mk 0 n (ad.gen h 0 n) 0) n2)
@[simp] noncomputable def zai(h:ad)(n:Nat)(n2:Nat)(v:AV):=aU env.P false (ad.get h) (Ref.mk 0 n (ad.gen h 0 n) 0) .len #[n2] [v]
@[simp] noncomputable def zaj(h:ad)(n:Nat)(n2:Nat)(n3:Nat)(v:AV):=bg h (Ref.mk (n+1) n2 (ad.gen h (n+1) n2) 0) (cd env.P (Ref.mk (n+1) n2 (ad.gen h (n+1) n2) 0) n3 (some v))
@[simp] noncomputable def zak(n:Nat)(n2:Nat)(i:Int)(v:AV):=aH env.P .eql n (Operand.tmp n2) (Operand.const (Value.int IntKind.i64 i)) (some v) (some (AV.v (Value.int IntKind.i64 i)))
@[simp] noncomputable def zal(h:ad)(n:Nat)(v:AV)(v2:AV):=aQ env.P h n (some v) (some v2)
@[simp] noncomputable def zam(v:AV)(v2:AV):=bp (some v) (some (AV.v (Value.bool true))) (some v2)
@[simp] noncomputable def zan(n:Nat)(n2:Nat)(n3:Nat)(v:AV)(v2:AV):=aH env.P .eql n (Operand.tmp n2) (Operand.tmp n3) (some v) (some v2)
@[simp] noncomputable def zao(h:ad)(n:Nat)(n2:Nat)(n3:Nat):=bg h (Ref.mk (n+1) n2 (ad.gen h (n+1) n2) 0) (bI env.P (Ref.mk (n+1) n2 (ad.gen h (n+1) n2) 0) n3)
@[simp] noncomputable def zap(n:Nat)(n2:Nat)(n3:Nat)(v:AV)(v2:AV):=aH env.P .lss n (Operand.tmp n2) (Operand.tmp n3) (some v) (some v2)
@[simp] noncomputable def zaq(n:Nat)(n2:Nat)(i:Int)(v:AV):=aH env.P .geq n (Operand.tmp n2) (Operand.const (Value.int IntKind.i64 i)) (some v) (some (AV.v (Value.int IntKind.i64 i)))
@[simp] noncomputable def zar(n:Nat)(n2:Nat)(i:Int)(v:AV):=aH env.P .gtr n (Operand.tmp n2) (Operand.const (Value.int IntKind.i64 i)) (some v) (some (AV.v (Value.int IntKind.i64 i)))
@[simp] noncomputable def zas(n:Nat)(n2:Nat)(i:Int)(v:AV):=aH env.P .lss n (Operand.tmp n2) (Operand.const (Value.int IntKind.i64 i)) (some v) (some (AV.v (Value.int IntKind.i64 i)))
@[simp] noncomputable def zat(h:ad)(n:Nat)(n2:Nat)(n3:Nat)(v:AV)(v2:AV):=de env.P true h (Ref.mk 0 n (ad.gen h 0 n) 0) (some n2) (some n3) v v2
@[simp] noncomputable def zau(h:ad)(n:Nat)(v:AV)(v2:AV):=bq env.P (ad.get h) n (some v) (some v2)
@[simp] noncomputable def zav(n:Nat)(n2:Nat)(n3:Nat)(v:AV)(v2:AV):=aH env.P .neq n (Operand.tmp n2) (Operand.tmp n3) (some v) (some v2)
@[simp] noncomputable def zaw(v:AV)(n:Nat):=aE (some v) n
@[simp] noncomputable def zax(n:Nat)(n2:Nat)(i:Int)(v:AV):=aH env.P .sub n (Operand.tmp n2) (Operand.const (Value.int IntKind.i64 i)) (some v) (some (AV.v (Value.int IntKind.i64 i)))
@[simp] noncomputable def zay(h:ad)(n:Nat)(n2:Nat)(n3:Nat)(v:AV):=cZ env.P (ad.get h) (Ref.mk 0 n (ad.gen h 0 n) 0) n2 n3 (some v)
@[simp] noncomputable def zaz(n:Nat)(n2:Nat)(i:Int)(v:AV):=aH env.P .leq n (Operand.tmp n2) (Operand.const (Value.int IntKind.i64 i)) (some v) (some (AV.v (Value.int IntKind.i64 i)))
@[simp] noncomputable def zba(h:ad)(n:Nat)(n2:Nat)(n3:Nat)(v:AV):=aU env.P false (ad.get h) (Ref.mk (n+1) n2 (ad.gen h (n+1) n2) 0) .len #[n3] [v]
@[simp] noncomputable def zbb(v:AV):=vk env.P .not (some v)
@[simp] noncomputable def zbc(h:ad)(n:Nat)(n2:Nat)(n3:Nat)(n4:Nat)(v:AV):=fu env.P false true h (Ref.mk 0 n (ad.gen h 0 n) 0) n2 n3 (some [(n4,v)])
@[simp] noncomputable def zbd(n:Nat)(h:ad)(n2:Nat)(v:AV)(v2:AV):=bo env true (bj env) (bO env (n+1)) h (Ref.mk (n+1) n2 (ad.gen h (n+1) n2) 0) (some v) [v2]
@[simp] noncomputable def zbe(n:Nat)(h:ad)(n2:Nat)(v:AV)(v2:AV):=bo env true (bj env) (bO env (n+1)) h (Ref.mk (n+1) n2 (ad.gen h (n+1) n2) 0) (some (.fn (.func 100) [] [])) [v,v2]
@[simp] noncomputable def zbf(n:Nat)(n2:Nat)(n3:Nat)(v:AV)(v2:AV):=aH env.P .add n (Operand.tmp n2) (Operand.tmp n3) (some v) (some v2)
@[simp] noncomputable def zbg(h:ad)(n:Nat)(v:AV)(v2:AV):=bo env true (bj env) (bO env 0) h (Ref.mk 0 n (ad.gen h 0 n) 0) (some v) [v2]
@[simp] noncomputable def zbh(h:ad)(n:Nat)(v:AV)(v2:AV):=eU env.P (ad.get h) n (some v) (some none) (oi v2) (some none)
@[simp] noncomputable def zbi(h:ad)(n:Nat)(v:AV)(v2:AV):=cS env.P (ad.get h) n (some v) (some v2) false
@[simp] noncomputable def zbj(v:AV):=cz (some v)
@[simp] noncomputable def zbk(n:Nat)(n2:Nat)(v:AV):=aH env.P .eql n (Operand.tmp n2) (.const (.int .u8 1)) (some v) (some (a8 1))
@[simp] noncomputable def zbl(n:Nat)(h:ad)(n2:Nat)(v:AV):=bo env true (bj env) (bO env (n+1)) h (Ref.mk (n+1) n2 (ad.gen h (n+1) n2) 0) (some (.fn (.func 213) [] [])) [v]
@[simp] noncomputable def zbm(n:Nat)(n2:Nat)(n3:Nat)(v:AV)(v2:AV):=aH env.P .geq n (Operand.tmp n2) (Operand.tmp n3) (some v) (some v2)
@[simp] noncomputable def zbn(h:ad)(n:Nat)(n2:Nat):=bg h (Ref.mk (n+1) n2 (ad.gen h (n+1) n2) 0) (some (.mp (Ref.mk (n+1) n2 (ad.gen h (n+1) n2) 0),[bE []]))
@[simp] noncomputable def zbo(n:Nat)(n2:Nat)(v:AV)(n3:Nat)(v2:AV):=ch env.P n (some [(n2,v),(n3,v2)])
@[simp] noncomputable def zbp(n:Nat):=ch env.P n (some [])
@[simp] noncomputable def zbq(n:Nat)(n2:Nat)(v:AV):=aH env.P .eql n (Operand.tmp n2) (.const (.int .u8 3)) (some v) (some (a8 3))
@[simp] noncomputable def zbr(n:Nat)(n2:Nat)(v:AV):=aH env.P .eql n (Operand.tmp n2) (.const (.slice none 0 0)) (some v) (some (.v (.slice none 0 0)))
@[simp] noncomputable def zbs(n:Nat)(n2:Nat)(n3:Nat)(v:AV)(v2:AV):=aH env.P .sub n (Operand.tmp n2) (Operand.tmp n3) (some v) (some v2)
@[simp] noncomputable def zbt(h:ad)(v:AV)(n:Nat):=bC env.P h v n
@[simp] noncomputable def zbu(h:ad)(n:Nat)(n2:Nat)(n3:Nat)(n4:Nat)(v:AV)(v2:AV):=de env.P true h (Ref.mk (n+1) n2 (ad.gen h (n+1) n2) 0) (some n3) (some n4) v v2
@[simp] noncomputable def zbv(n:Nat)(h:ad)(n2:Nat)(v:AV)(v2:AV)(v3:AV):=bo env true (bj env) (bO env (n+1)) h (Ref.mk (n+1) n2 (ad.gen h (n+1) n2) 0) (some v) [v2,v3]
@[simp] noncomputable def zbw(n:Nat)(n2:Nat)(v:AV):=aH env.P .shr n (Operand.tmp n2) (.const (.int .u64 8)) (some v) (some (.v (.int .u64 8)))
@[simp] noncomputable def zbx(h:ad)(n:Nat)(n2:Nat)(v:AV):=aU env.P false (ad.get h) (Ref.mk 0 n (ad.gen h 0 n) 0) .cap #[n2] [v]
@[simp] noncomputable def zby(v:AV):=jB (some v)
@[simp] noncomputable def zbz(n:Nat)(i:Int)(n2:Nat)(v:AV):=aH env.P .mul n (Operand.const (Value.int IntKind.i64 i)) (Operand.tmp n2) (some (AV.v (Value.int IntKind.i64 i))) (some v)
@[simp] noncomputable def zca(n:Nat)(h:ad)(n2:Nat)(v:AV)(v2:AV):=bo env false (bj env) (bO env (n+1)) h (Ref.mk (n+1) n2 (ad.gen h (n+1) n2) 0) (some (.fn (.func 152) [] [])) [v,v2]
@[simp] noncomputable def zcb(n:Nat)(h:ad)(n2:Nat)(v:AV)(v2:AV):=bo env false (bj env) (bO env (n+1)) h (Ref.mk (n+1) n2 (ad.gen h (n+1) n2) 0) (some (.fn (.func 44) [] [])) [v,v2]
@[simp] noncomputable def zcc(n:Nat)(h:ad)(n2:Nat)(v:AV)(v2:AV):=bo env true (bj env) (bO env (n+1)) h (Ref.mk (n+1) n2 (ad.gen h (n+1) n2) 0) (some (.fn (.func 146) [] [])) [v,v2]
@[simp] noncomputable def zcd(n:Nat)(h:ad)(n2:Nat)(v:AV)(v2:AV)(v3:AV):=bo env true (bj env) (bO env (n+1)) h (Ref.mk (n+1) n2 (ad.gen h (n+1) n2) 0) (some (.fn (.func 230) [] [])) [v,v2,v3]
@[simp] noncomputable def zce(n:Nat)(h:ad)(n2:Nat)(v:AV)(v2:AV):=bo env true (bj env) (bO env (n+1)) h (Ref.mk (n+1) n2 (ad.gen h (n+1) n2) 0) (some (.fn (.func 232) [] [])) [v,v2]
@[simp] noncomputable def zcf(n:Nat)(h:ad)(n2:Nat)(v:AV)(v2:AV):=bo env true (bj env) (bO env (n+1)) h (Ref.mk (n+1) n2 (ad.gen h (n+1) n2) 0) (some (.fn (.func 47) [] [])) [v,v2]
@[simp] noncomputable def zcg(n:Nat)(h:ad)(n2:Nat)(v:AV)(v2:AV):=bo env true (bj env) (bO env (n+1)) h (Ref.mk (n+1) n2 (ad.gen h (n+1) n2) 0) (some (.fn (.func 234) [] [])) [v,v2]
@[simp] noncomputable def zch(h:ad)(n:Nat)(n2:Nat)(n3:Nat)(n4:Nat)(n5:Nat)(v:AV):=fu env.P true false h (Ref.mk (n+1) n2 (ad.gen h (n+1) n2) 0) n3 n4 (some [(n5,v)])
@[simp] noncomputable def zci(n:Nat)(n2:Nat)(v:AV):=ch env.P n (some [(0,(.fn (.func 118) [] [])),(n2,v)])
@[simp] noncomputable def zcj(h:ad)(n:Nat)(n2:Nat)(n3:Nat)(v:AV)(v2:AV):=aU env.P true (ad.get h) (Ref.mk 0 n (ad.gen h 0 n) 0) .max #[n2,n3] [v,v2]
@[simp] noncomputable def zck(n:Nat)(n2:Nat)(v:AV):=aH env.P .eql n (Operand.tmp n2) (.const (.int .i32 (-1))) (some v) (some (.v (.int .i32 (-1))))
@[simp] noncomputable def zcl(n:Nat)(n2:Nat)(v:AV):=aH env.P .shr n (Operand.tmp n2) (.const (.int .u64 16)) (some v) (some (.v (.int .u64 16)))
@[simp] noncomputable def zcm(h:ad)(n:Nat)(n2:Nat)(n3:Nat):=fu env.P false true h (Ref.mk 0 n (ad.gen h 0 n) 0) n2 n3 (some [])
@[simp] noncomputable def zcn(n:Nat)(n2:Nat)(n3:Nat)(v:AV)(v2:AV):=aH env.P .leq n (Operand.tmp n2) (Operand.tmp n3) (some v) (some v2)
@[simp] noncomputable def zco(n:Nat)(n2:Nat)(n3:Nat)(v:AV)(v2:AV):=aH env.P .gtr n (Operand.tmp n2) (Operand.tmp n3) (some v) (some v2)
@[simp] noncomputable def zcp(n:Nat)(n2:Nat)(v:AV):=ch env.P n (some [(n2,v)])
@[simp] noncomputable def zcq(h:ad)(n:Nat)(v:AV):=bo env true (bj env) (bO env 0) h (Ref.mk 0 n (ad.gen h 0 n) 0) (some v) []
@[simp] noncomputable def zcr(h:ad)(v:AV)(v2:AV)(v3:AV):=dp h (some v) (some v2) (some v3)
@[simp] noncomputable def zcs(h:ad)(n:Nat)(v:AV)(v2:AV):=eM env.P h n (some v) (some v2)
theorem My:KP env fns=true:=by kernel_rfl
@[simp] theorem ad6{f:FuncId}(h:kN.contains f=false):(env.mode f == 2)=false:=by
 show((if cL.contains f then (if kN.contains f then 3 else 1) else if kN.contains f then 2 else 0) == 2)=false
 rw[h]
 split<;>rfl
@[simp] theorem acQ{f:FuncId}(h:kN.contains f=false):(env.mode f == 3)=false:=by
 show((if cL.contains f then (if kN.contains f then 3 else 1) else if kN.contains f then 2 else 0) == 3)=false
 rw[h]
 split<;>rfl
theorem aaH{f:FuncId}(h:cL.contains f=false):xY (env.mode f)=false:=by
 show xY (if cL.contains f then (if kN.contains f then 3 else 1) else if kN.contains f then 2 else 0)=false
 rw[h]
 cases kN.contains f<;>rfl
@[simp] theorem TB{f:FuncId}(h:cL.contains f=false)(x:AV)(H:ad)(y:AV):rW env f x H y↔view H.get depth x=some y:=O5 (aaH h) x H y
theorem aaG{f:FuncId}(h:cL.contains f=true):xY (env.mode f)=true:=by
 show xY (if cL.contains f then (if kN.contains f then 3 else 1) else if kN.contains f then 2 else 0)=true
 rw[h]
 cases kN.contains f<;>rfl
@[simp] theorem acX{f:FuncId}(h:cL.contains f=true)(x:AV)(H:ad)(y:AV):rW env f x H y↔(aM H.get depth x).Nodup∧dT H.get depth x=some y:=KJ (aaG h) x H y
@[simp] theorem ab3:bm env.P 3=(some 1):=by kernel_rfl
@[simp] theorem adT:dt env.P 3=(some false):=by kernel_rfl
@[simp] theorem acV:oh env.P 3=(some 1):=by kernel_rfl
@[simp] theorem acW:isInt env.P 3=true:=by kernel_rfl
@[simp] theorem Yz:intKind env.P 3=(some .i64):=by kernel_rfl
@[simp] theorem adO:(env.P.underlying 3).isNone=false:=by kernel_rfl
@[simp] theorem ab2:bm env.P 4=(some 1):=by kernel_rfl
@[simp] theorem adS:dt env.P 4=(some false):=by kernel_rfl
@[simp] theorem ab0:eS env.P 4=(some (.v (.bool false))):=by kernel_rfl
@[simp] theorem acU:oh env.P 4=(some 0):=by kernel_rfl
@[simp] theorem aaY:isBool env.P 4=true:=by kernel_rfl
@[simp] theorem ab1:bm env.P 5=(some 1):=by kernel_rfl
@[simp] theorem adR:dt env.P 5=(some false):=by kernel_rfl
@[simp] theorem acT:oh env.P 5=(some 1):=by kernel_rfl
@[simp] theorem Yy:intKind env.P 5=(some .u8):=by kernel_rfl
@[simp] theorem PQ:bm env.P 21=(some 1):=by kernel_rfl
@[simp] theorem SJ:dt env.P 21=(some false):=by kernel_rfl
@[simp] theorem WI:intKind env.P 21=(some .i32):=by kernel_rfl
@[simp] theorem abY:(env.P.underlying 21).isNone=false:=by kernel_rfl
@[simp] theorem ZC:bm env.P 22=(some 1):=by kernel_rfl
@[simp] theorem acz:dt env.P 22=(some false):=by kernel_rfl
@[simp] theorem PU:dZ env.P 22=(some 58):=by kernel_rfl
@[simp] theorem ach:jy env.P 22=none:=by kernel_rfl
@[simp] theorem aaX:isStr env.P 22=false:=by kernel_rfl
@[simp] theorem aet:Hf env.P 22=true:=by kernel_rfl
@[simp] theorem adg:pf env.P 22=true:=by kernel_rfl
@[simp] theorem aef:mC env.P 22=3:=by kernel_rfl
@[simp] theorem adl:sV env.P 22=12:=by kernel_rfl
@[simp] theorem YQ:iY env.P 22=(.agg [(a8 0),(aF 0),(.v (.bool false))]):=by kernel_rfl
@[simp] theorem ZB:bm env.P 23=(some 1):=by kernel_rfl
@[simp] theorem acy:dt env.P 23=(some false):=by kernel_rfl
@[simp] theorem PT:dZ env.P 23=(some 81):=by kernel_rfl
@[simp] theorem acg:jy env.P 23=none:=by kernel_rfl
@[simp] theorem aaW:isStr env.P 23=false:=by kernel_rfl
@[simp] theorem aes:Hf env.P 23=true:=by kernel_rfl
@[simp] theorem adf:pf env.P 23=true:=by kernel_rfl
@[simp] theorem aee:mC env.P 23=5:=by kernel_rfl
@[simp] theorem adk:sV env.P 23=32:=by kernel_rfl
@[simp] theorem YP:iY env.P 23=(.agg [(a8 0),(aF 0),(.v (.int .i64 0)),(.v (.int .i64 0)),(.v (.int .i64 0))]):=by kernel_rfl
@[simp] theorem ZA:bm env.P 25=(some 3):=by kernel_rfl
@[simp] theorem acx:dt env.P 25=(some true):=by kernel_rfl
@[simp] theorem acf:jy env.P 25=none:=by kernel_rfl
@[simp] theorem Zm:eS env.P 25=(some (.agg [(.v (.slice none 0 0)),(.v (.slice none 0 0)),(.v (.int .i64 0))])):=by kernel_rfl
@[simp] theorem KZ:gP env.P 25=(some [22,23,3]):=by kernel_rfl
@[simp] theorem Yl:fC env.P 25=(some [(0,1),(1,1),(2,1)]):=by kernel_rfl
@[simp] theorem Vn:aP env.P 25 0=(some (0,1)):=by kernel_rfl
@[simp] theorem Vc:aP env.P 25 1=(some (1,1)):=by kernel_rfl
@[simp] theorem U1:aP env.P 25 2=(some (2,1)):=by kernel_rfl
@[simp] theorem Zz:bm env.P 26=(some 1):=by kernel_rfl
@[simp] theorem acw:dt env.P 26=(some false):=by kernel_rfl
@[simp] theorem PS:dZ env.P 26=(some 62):=by kernel_rfl
@[simp] theorem ace:jy env.P 26=none:=by kernel_rfl
@[simp] theorem aaV:isStr env.P 26=false:=by kernel_rfl
@[simp] theorem aer:Hf env.P 26=true:=by kernel_rfl
@[simp] theorem ade:pf env.P 26=true:=by kernel_rfl
@[simp] theorem aed:mC env.P 26=24:=by kernel_rfl
@[simp] theorem adj:sV env.P 26=160:=by kernel_rfl
@[simp] theorem YO:iY env.P 26=(.agg [(a8 0),(.v (.int .i64 0)),(a8 0),(a8 0),(aF 0),(a8 0),(.v (.int .i64 0)),(a8 0),(aF 0),(a8 0),(.v (.int .i64 0)),(.v (.int .i64 0)),(a8 0),(aF 0),(a8 0),(.v (.int .i64 0)),(a8 0),(aF 0),(.v (.slice none 0 0)),(.v (.int .i64 0)),(.v (.int .i64 0)),(a8 0),(aF 0),(.v (.bool false))]):=by kernel_rfl
@[simp] theorem Zy:bm env.P 27=(some 1):=by kernel_rfl
@[simp] theorem acv:dt env.P 27=(some false):=by kernel_rfl
@[simp] theorem aaQ:oh env.P 27=(some 1):=by kernel_rfl
@[simp] theorem WH:intKind env.P 27=(some .u32):=by kernel_rfl
@[simp] theorem abX:(env.P.underlying 27).isNone=false:=by kernel_rfl
@[simp] theorem Zx:bm env.P 29=(some 2):=by kernel_rfl
@[simp] theorem acu:dt env.P 29=(some true):=by kernel_rfl
@[simp] theorem acd:jy env.P 29=none:=by kernel_rfl
@[simp] theorem Zl:eS env.P 29=(some (.agg [(a8 0),(aF 0)])):=by kernel_rfl
@[simp] theorem aaP:oh env.P 29=none:=by kernel_rfl
@[simp] theorem ac3:FK env.P 29=true:=by kernel_rfl
@[simp] theorem KY:gP env.P 29=(some [5,27]):=by kernel_rfl
@[simp] theorem Yk:fC env.P 29=(some [(0,1),(1,1)]):=by kernel_rfl
@[simp] theorem Vm:aP env.P 29 0=(some (0,1)):=by kernel_rfl
@[simp] theorem Vb:aP env.P 29 1=(some (1,1)):=by kernel_rfl
@[simp] theorem Zw:bm env.P 31=(some 3):=by kernel_rfl
@[simp] theorem acs:dt env.P 31=(some true):=by kernel_rfl
@[simp] theorem acb:jy env.P 31=none:=by kernel_rfl
@[simp] theorem Zk:eS env.P 31=(some (.agg [(a8 0),(aF 0),(a8 0)])):=by kernel_rfl
@[simp] theorem aaO:oh env.P 31=none:=by kernel_rfl
@[simp] theorem ac2:FK env.P 31=true:=by kernel_rfl
@[simp] theorem KX:gP env.P 31=(some [29,5]):=by kernel_rfl
@[simp] theorem Yj:fC env.P 31=(some [(0,2),(2,1)]):=by kernel_rfl
@[simp] theorem Vl:aP env.P 31 0=(some (0,2)):=by kernel_rfl
@[simp] theorem Va:aP env.P 31 1=(some (2,1)):=by kernel_rfl
@[simp] theorem Zv:bm env.P 33=(some 4):=by kernel_rfl
@[simp] theorem acr:dt env.P 33=(some true):=by kernel_rfl
@[simp] theorem aca:jy env.P 33=none:=by kernel_rfl
@[simp] theorem Zj:eS env.P 33=(some (.agg [(a8 0),(aF 0),(a8 0),(.v (.int .i64 0))])):=by kernel_rfl
@[simp] theorem aaN:oh env.P 33=none:=by kernel_rfl
@[simp] theorem ac1:FK env.P 33=true:=by kernel_rfl
@[simp] theorem KW:gP env.P 33=(some [31,3]):=by kernel_rfl
@[simp] theorem Yi:fC env.P 33=(some [(0,3),(3,1)]):=by kernel_rfl
@[simp] theorem Vk:aP env.P 33 0=(some (0,3)):=by kernel_rfl
@[simp] theorem U9:aP env.P 33 1=(some (3,1)):=by kernel_rfl
@[simp] theorem Zu:bm env.P 35=(some 5):=by kernel_rfl
@[simp] theorem acq:dt env.P 35=(some true):=by kernel_rfl
@[simp] theorem aaM:oh env.P 35=none:=by kernel_rfl
@[simp] theorem ac0:FK env.P 35=true:=by kernel_rfl
@[simp] theorem KV:gP env.P 35=(some [33,3]):=by kernel_rfl
@[simp] theorem Vj:aP env.P 35 0=(some (0,4)):=by kernel_rfl
@[simp] theorem U8:aP env.P 35 1=(some (4,1)):=by kernel_rfl
@[simp] theorem Zt:bm env.P 36=(some 1):=by kernel_rfl
@[simp] theorem acp:dt env.P 36=(some false):=by kernel_rfl
@[simp] theorem PR:dZ env.P 36=(some 21):=by kernel_rfl
@[simp] theorem ab9:jy env.P 36=none:=by kernel_rfl
@[simp] theorem aaU:isStr env.P 36=false:=by kernel_rfl
@[simp] theorem aeq:Hf env.P 36=true:=by kernel_rfl
@[simp] theorem adb:pf env.P 36=true:=by kernel_rfl
@[simp] theorem aec:mC env.P 36=1:=by kernel_rfl
@[simp] theorem adi:sV env.P 36=4:=by kernel_rfl
@[simp] theorem YN:iY env.P 36=(.v (.int .i32 0)):=by kernel_rfl
@[simp] theorem Zs:bm env.P 38=(some 17):=by kernel_rfl
@[simp] theorem aco:dt env.P 38=(some true):=by kernel_rfl
@[simp] theorem ab8:jy env.P 38=none:=by kernel_rfl
@[simp] theorem Zi:eS env.P 38=(some (.agg [(a8 0),(a8 0),(aF 0),(a8 0),(.v (.int .i64 0)),(a8 0),(aF 0),(a8 0),(.v (.int .i64 0)),(.v (.int .i64 0)),(a8 0),(aF 0),(a8 0),(.v (.int .i64 0)),(a8 0),(aF 0),(.v (.slice none 0 0))])):=by kernel_rfl
@[simp] theorem KU:gP env.P 38=(some [5,31,3,35,33,29,36]):=by kernel_rfl
@[simp] theorem Yh:fC env.P 38=(some [(0,1),(1,3),(4,1),(5,5),(10,4),(14,2),(16,1)]):=by kernel_rfl
@[simp] theorem Vi:aP env.P 38 0=(some (0,1)):=by kernel_rfl
@[simp] theorem U7:aP env.P 38 1=(some (1,3)):=by kernel_rfl
@[simp] theorem U0:aP env.P 38 2=(some (4,1)):=by kernel_rfl
@[simp] theorem UW:aP env.P 38 3=(some (5,5)):=by kernel_rfl
@[simp] theorem US:aP env.P 38 4=(some (10,4)):=by kernel_rfl
@[simp] theorem UQ:aP env.P 38 5=(some (14,2)):=by kernel_rfl
@[simp] theorem UP:aP env.P 38 6=(some (16,1)):=by kernel_rfl
@[simp] theorem Zr:bm env.P 41=(some 1):=by kernel_rfl
@[simp] theorem acn:dt env.P 41=(some false):=by kernel_rfl
@[simp] theorem ZD:dZ env.P 41=(some 38):=by kernel_rfl
@[simp] theorem ab7:jy env.P 41=none:=by kernel_rfl
@[simp] theorem aaT:isStr env.P 41=false:=by kernel_rfl
@[simp] theorem aep:Hf env.P 41=true:=by kernel_rfl
@[simp] theorem ada:pf env.P 41=true:=by kernel_rfl
@[simp] theorem aeb:mC env.P 41=17:=by kernel_rfl
@[simp] theorem adh:sV env.P 41=112:=by kernel_rfl
@[simp] theorem YM:iY env.P 41=(.agg [(a8 0),(a8 0),(aF 0),(a8 0),(.v (.int .i64 0)),(a8 0),(aF 0),(a8 0),(.v (.int .i64 0)),(.v (.int .i64 0)),(a8 0),(aF 0),(a8 0),(.v (.int .i64 0)),(a8 0),(aF 0),(.v (.slice none 0 0))]):=by kernel_rfl
@[simp] theorem Zq:bm env.P 42=(some 1):=by kernel_rfl
@[simp] theorem acm:dt env.P 42=(some false):=by kernel_rfl
@[simp] theorem WG:intKind env.P 42=(some .i64):=by kernel_rfl
@[simp] theorem abW:(env.P.underlying 42).isNone=false:=by kernel_rfl
@[simp] theorem PO:bm env.P 58=(some 3):=by kernel_rfl
@[simp] theorem SI:dt env.P 58=(some true):=by kernel_rfl
@[simp] theorem Zh:eS env.P 58=(some (.agg [(a8 0),(aF 0),(.v (.bool false))])):=by kernel_rfl
@[simp] theorem aaL:oh env.P 58=none:=by kernel_rfl
@[simp] theorem Di:gP env.P 58=(some [29,4]):=by kernel_rfl
@[simp] theorem Vh:aP env.P 58 0=(some (0,2)):=by kernel_rfl
@[simp] theorem U6:aP env.P 58 1=(some (2,1)):=by kernel_rfl
@[simp] theorem Zp:bm env.P 60=(some 4):=by kernel_rfl
@[simp] theorem ack:dt env.P 60=(some true):=by kernel_rfl
@[simp] theorem aaK:oh env.P 60=none:=by kernel_rfl
@[simp] theorem acZ:FK env.P 60=true:=by kernel_rfl
@[simp] theorem KT:gP env.P 60=(some [3,58]):=by kernel_rfl
@[simp] theorem Vg:aP env.P 60 0=(some (0,1)):=by kernel_rfl
@[simp] theorem U5:aP env.P 60 1=(some (1,3)):=by kernel_rfl
@[simp] theorem PN:bm env.P 62=(some 24):=by kernel_rfl
@[simp] theorem SH:dt env.P 62=(some true):=by kernel_rfl
@[simp] theorem ab6:jy env.P 62=none:=by kernel_rfl
@[simp] theorem Zg:eS env.P 62=(some (.agg [(a8 0),(.v (.int .i64 0)),(a8 0),(a8 0),(aF 0),(a8 0),(.v (.int .i64 0)),(a8 0),(aF 0),(a8 0),(.v (.int .i64 0)),(.v (.int .i64 0)),(a8 0),(aF 0),(a8 0),(.v (.int .i64 0)),(a8 0),(aF 0),(.v (.slice none 0 0)),(.v (.int .i64 0)),(.v (.int .i64 0)),(a8 0),(aF 0),(.v (.bool false))])):=by kernel_rfl
@[simp] theorem KS:gP env.P 62=(some [5,3,38,42,60]):=by kernel_rfl
@[simp] theorem Yg:fC env.P 62=(some [(0,1),(1,1),(2,17),(19,1),(20,4)]):=by kernel_rfl
@[simp] theorem Vf:aP env.P 62 0=(some (0,1)):=by kernel_rfl
@[simp] theorem U4:aP env.P 62 1=(some (1,1)):=by kernel_rfl
@[simp] theorem UZ:aP env.P 62 2=(some (2,17)):=by kernel_rfl
@[simp] theorem UU:aP env.P 62 3=(some (19,1)):=by kernel_rfl
@[simp] theorem UR:aP env.P 62 4=(some (20,4)):=by kernel_rfl
@[simp] theorem Zo:bm env.P 73=(some 3):=by kernel_rfl
@[simp] theorem acj:dt env.P 73=(some true):=by kernel_rfl
@[simp] theorem ab5:jy env.P 73=none:=by kernel_rfl
@[simp] theorem Zf:eS env.P 73=(some (.agg [(.v (.bool false)),(.v (.int .i64 0)),(.v (.int .i64 0))])):=by kernel_rfl
@[simp] theorem Yf:fC env.P 73=(some [(0,1),(1,1),(2,1)]):=by kernel_rfl
@[simp] theorem UC:nO env.P 73 0=(some (0,4)):=by kernel_rfl
@[simp] theorem Ve:aP env.P 73 0=(some (0,1)):=by kernel_rfl
@[simp] theorem U3:aP env.P 73 1=(some (1,1)):=by kernel_rfl
@[simp] theorem UY:aP env.P 73 2=(some (2,1)):=by kernel_rfl
@[simp] theorem PM:bm env.P 81=(some 5):=by kernel_rfl
@[simp] theorem SG:dt env.P 81=(some true):=by kernel_rfl
@[simp] theorem ab4:jy env.P 81=none:=by kernel_rfl
@[simp] theorem Ze:eS env.P 81=(some (.agg [(a8 0),(aF 0),(.v (.int .i64 0)),(.v (.int .i64 0)),(.v (.int .i64 0))])):=by kernel_rfl
@[simp] theorem KR:gP env.P 81=(some [29,3,3,3]):=by kernel_rfl
@[simp] theorem Ye:fC env.P 81=(some [(0,2),(2,1),(3,1),(4,1)]):=by kernel_rfl
@[simp] theorem Vd:aP env.P 81 0=(some (0,2)):=by kernel_rfl
@[simp] theorem U2:aP env.P 81 1=(some (2,1)):=by kernel_rfl
@[simp] theorem UX:aP env.P 81 2=(some (3,1)):=by kernel_rfl
@[simp] theorem UB:nO env.P 81 3=(some (4,3)):=by kernel_rfl
@[simp] theorem UT:aP env.P 81 3=(some (4,1)):=by kernel_rfl
@[simp] theorem Zn:bm env.P 90=(some 1):=by kernel_rfl
@[simp] theorem aci:dt env.P 90=(some false):=by kernel_rfl
@[simp] theorem XT:bm env.P 107=(some 26):=by kernel_rfl
@[simp] theorem Z7:dt env.P 107=(some true):=by kernel_rfl
@[simp] theorem ZR:jy env.P 107=none:=by kernel_rfl
@[simp] theorem XA:eS env.P 107=(some (.agg [(.v (.int .i64 0)),(.v (.bool false)),(a8 0),(.v (.int .i64 0)),(a8 0),(a8 0),(aF 0),(a8 0),(.v (.int .i64 0)),(a8 0),(aF 0),(a8 0),(.v (.int .i64 0)),(.v (.int .i64 0)),(a8 0),(aF 0),(a8 0),(.v (.int .i64 0)),(a8 0),(aF 0),(.v (.slice none 0 0)),(.v (.int .i64 0)),(.v (.int .i64 0)),(a8 0),(aF 0),(.v (.bool false))])):=by kernel_rfl
@[simp] theorem We:fC env.P 107=(some [(0,1),(1,1),(2,24)]):=by kernel_rfl
@[simp] theorem Ub:aP env.P 107 0=(some (0,1)):=by kernel_rfl
@[simp] theorem TU:aP env.P 107 1=(some (1,1)):=by kernel_rfl
@[simp] theorem TM:aP env.P 107 2=(some (2,24)):=by kernel_rfl
@[simp] theorem XS:bm env.P 126=(some 1):=by kernel_rfl
@[simp] theorem Z6:dt env.P 126=(some false):=by kernel_rfl
@[simp] theorem XR:bm env.P 127=(some 1):=by kernel_rfl
@[simp] theorem Z5:dt env.P 127=(some false):=by kernel_rfl
@[simp] theorem XQ:bm env.P 129=(some 10):=by kernel_rfl
@[simp] theorem ZQ:jy env.P 129=none:=by kernel_rfl
@[simp] theorem Xz:eS env.P 129=(some (.agg [(.v (.slice none 0 0)),(.v (.slice none 0 0)),(.v (.int .i64 0)),(.v (.slice none 0 0)),(.v (.slice none 0 0)),(.v (.int .i64 0)),(.v (.slice none 0 0)),(.v (.map none)),(.v (.map none)),(.v (.slice none 0 0))])):=by kernel_rfl
@[simp] theorem Wd:fC env.P 129=(some [(0,3),(3,3),(6,1),(7,1),(8,1),(9,1)]):=by kernel_rfl
@[simp] theorem Ua:aP env.P 129 0=(some (0,3)):=by kernel_rfl
@[simp] theorem TT:aP env.P 129 1=(some (3,3)):=by kernel_rfl
@[simp] theorem TL:aP env.P 129 2=(some (6,1)):=by kernel_rfl
@[simp] theorem TI:aP env.P 129 3=(some (7,1)):=by kernel_rfl
@[simp] theorem TG:aP env.P 129 4=(some (8,1)):=by kernel_rfl
@[simp] theorem TF:aP env.P 129 5=(some (9,1)):=by kernel_rfl
@[simp] theorem XP:bm env.P 137=(some 1):=by kernel_rfl
@[simp] theorem Z4:dt env.P 137=(some false):=by kernel_rfl
@[simp] theorem XO:bm env.P 147=(some 1):=by kernel_rfl
@[simp] theorem Z3:dt env.P 147=(some false):=by kernel_rfl
@[simp] theorem XN:bm env.P 148=(some 1):=by kernel_rfl
@[simp] theorem Z2:dt env.P 148=(some false):=by kernel_rfl
@[simp] theorem SE:nO env.P 150 0=(some (0,147)):=by kernel_rfl
@[simp] theorem SC:nO env.P 150 1=(some (1,148)):=by kernel_rfl
@[simp] theorem XM:bm env.P 170=(some 1):=by kernel_rfl
@[simp] theorem Z1:dt env.P 170=(some false):=by kernel_rfl
@[simp] theorem XZ:dZ env.P 170=(some 5):=by kernel_rfl
@[simp] theorem ZP:jy env.P 170=none:=by kernel_rfl
@[simp] theorem Yx:isStr env.P 170=false:=by kernel_rfl
@[simp] theorem adw:Hf env.P 170=true:=by kernel_rfl
@[simp] theorem abq:pf env.P 170=true:=by kernel_rfl
@[simp] theorem ac9:mC env.P 170=1:=by kernel_rfl
@[simp] theorem abu:sV env.P 170=1:=by kernel_rfl
@[simp] theorem W5:iY env.P 170=(a8 0):=by kernel_rfl
@[simp] theorem XL:bm env.P 173=(some 24):=by kernel_rfl
@[simp] theorem ZO:jy env.P 173=none:=by kernel_rfl
@[simp] theorem Xy:eS env.P 173=(some (.agg [(a8 0),(.v (.int .i64 0)),(a8 0),(a8 0),(aF 0),(a8 0),(.v (.int .i64 0)),(a8 0),(aF 0),(a8 0),(.v (.int .i64 0)),(.v (.int .i64 0)),(a8 0),(aF 0),(a8 0),(.v (.int .i64 0)),(a8 0),(aF 0),(.v (.slice none 0 0)),(.v (.int .i64 0)),(.v (.int .i64 0)),(a8 0),(aF 0),(.v (.bool false))])):=by kernel_rfl
@[simp] theorem Wc:fC env.P 173=(some [(0,24)]):=by kernel_rfl
@[simp] theorem TZ:aP env.P 173 0=(some (0,24)):=by kernel_rfl
@[simp] theorem XK:bm env.P 180=(some 1):=by kernel_rfl
@[simp] theorem Z0:dt env.P 180=(some false):=by kernel_rfl
@[simp] theorem XJ:bm env.P 185=(some 16):=by kernel_rfl
@[simp] theorem ZZ:dt env.P 185=(some true):=by kernel_rfl
@[simp] theorem ZN:jy env.P 185=none:=by kernel_rfl
@[simp] theorem Xx:eS env.P 185=(some (.agg [(.v (.bool false)),(.v (.int .i64 0)),(.v (.int .i64 0)),(.v (.slice none 0 0)),(.v (.slice none 0 0)),(.v (.int .i64 0)),(a8 0),(aF 0),(.v (.int .i64 0)),(.v (.int .i64 0)),(.v (.int .i64 0)),(a8 0),(aF 0),(.v (.int .i64 0)),(.v (.int .i64 0)),(.v (.int .i64 0))])):=by kernel_rfl
@[simp] theorem Wb:fC env.P 185=(some [(0,3),(3,3),(6,5),(11,5)]):=by kernel_rfl
@[simp] theorem TY:aP env.P 185 0=(some (0,3)):=by kernel_rfl
@[simp] theorem TQ:aP env.P 185 1=(some (3,3)):=by kernel_rfl
@[simp] theorem TK:aP env.P 185 2=(some (6,5)):=by kernel_rfl
@[simp] theorem TH:aP env.P 185 3=(some (11,5)):=by kernel_rfl
@[simp] theorem XI:bm env.P 190=(some 1):=by kernel_rfl
@[simp] theorem ZY:dt env.P 190=(some false):=by kernel_rfl
@[simp] theorem XH:bm env.P 193=(some 2):=by kernel_rfl
@[simp] theorem ZX:dt env.P 193=(some true):=by kernel_rfl
@[simp] theorem ZM:jy env.P 193=none:=by kernel_rfl
@[simp] theorem Xw:eS env.P 193=(some (.agg [(.v .nilFunc),(.v .nilFunc)])):=by kernel_rfl
@[simp] theorem Wa:fC env.P 193=(some [(0,1),(1,1)]):=by kernel_rfl
@[simp] theorem TX:aP env.P 193 0=(some (0,1)):=by kernel_rfl
@[simp] theorem TP:aP env.P 193 1=(some (1,1)):=by kernel_rfl
@[simp] theorem XG:bm env.P 203=(some 2):=by kernel_rfl
@[simp] theorem ZW:dt env.P 203=(some true):=by kernel_rfl
@[simp] theorem SD:nO env.P 203 0=(some (0,137)):=by kernel_rfl
@[simp] theorem ZL:jy env.P 204=(some (4,203)):=by kernel_rfl
@[simp] theorem XF:bm env.P 230=(some 1):=by kernel_rfl
@[simp] theorem ZV:dt env.P 230=(some false):=by kernel_rfl
@[simp] theorem XY:dZ env.P 235=(some 193):=by kernel_rfl
@[simp] theorem ZK:jy env.P 235=none:=by kernel_rfl
@[simp] theorem Yw:isStr env.P 235=false:=by kernel_rfl
@[simp] theorem abp:pf env.P 235=true:=by kernel_rfl
@[simp] theorem ac8:mC env.P 235=2:=by kernel_rfl
@[simp] theorem W4:iY env.P 235=(.agg [(.v .nilFunc),(.v .nilFunc)]):=by kernel_rfl
@[simp] theorem XX:dZ env.P 244=(some 33):=by kernel_rfl
@[simp] theorem ZJ:jy env.P 244=none:=by kernel_rfl
@[simp] theorem Yv:isStr env.P 244=false:=by kernel_rfl
@[simp] theorem adv:Hf env.P 244=true:=by kernel_rfl
@[simp] theorem abo:pf env.P 244=true:=by kernel_rfl
@[simp] theorem ac7:mC env.P 244=4:=by kernel_rfl
@[simp] theorem abt:sV env.P 244=24:=by kernel_rfl
@[simp] theorem W3:iY env.P 244=(.agg [(a8 0),(aF 0),(a8 0),(.v (.int .i64 0))]):=by kernel_rfl
@[simp] theorem XE:bm env.P 249=(some 10):=by kernel_rfl
@[simp] theorem ZU:dt env.P 249=(some true):=by kernel_rfl
@[simp] theorem ZI:jy env.P 249=none:=by kernel_rfl
@[simp] theorem Xv:eS env.P 249=(some (.agg [(a8 0),(aF 0),(a8 0),(.v (.int .i64 0)),(.v (.int .i64 0)),(a8 0),(aF 0),(a8 0),(.v (.int .i64 0)),(.v (.slice none 0 0))])):=by kernel_rfl
@[simp] theorem V9:fC env.P 249=(some [(0,5),(5,4),(9,1)]):=by kernel_rfl
@[simp] theorem TW:aP env.P 249 0=(some (0,5)):=by kernel_rfl
@[simp] theorem TO:aP env.P 249 1=(some (5,4)):=by kernel_rfl
@[simp] theorem TJ:aP env.P 249 2=(some (9,1)):=by kernel_rfl
@[simp] theorem XW:dZ env.P 262=(some 4):=by kernel_rfl
@[simp] theorem ZH:jy env.P 262=none:=by kernel_rfl
@[simp] theorem Yu:isStr env.P 262=false:=by kernel_rfl
@[simp] theorem abn:pf env.P 262=true:=by kernel_rfl
@[simp] theorem ac6:mC env.P 262=1:=by kernel_rfl
@[simp] theorem W2:iY env.P 262=(.v (.bool false)):=by kernel_rfl
@[simp] theorem XD:bm env.P 264=(some 1):=by kernel_rfl
@[simp] theorem ZT:dt env.P 264=(some false):=by kernel_rfl
@[simp] theorem XC:bm env.P 266=(some 2):=by kernel_rfl
@[simp] theorem ZG:jy env.P 266=none:=by kernel_rfl
@[simp] theorem Xu:eS env.P 266=(some (.agg [(.v (.slice none 0 0)),(.v (.map none))])):=by kernel_rfl
@[simp] theorem V8:fC env.P 266=(some [(0,1),(1,1)]):=by kernel_rfl
@[simp] theorem TV:aP env.P 266 0=(some (0,1)):=by kernel_rfl
@[simp] theorem TN:aP env.P 266 1=(some (1,1)):=by kernel_rfl
@[simp] theorem XB:bm env.P 277=(some 1):=by kernel_rfl
@[simp] theorem ZS:dt env.P 277=(some false):=by kernel_rfl
@[simp] theorem XV:dZ env.P 277=(some 29):=by kernel_rfl
@[simp] theorem ZF:jy env.P 277=none:=by kernel_rfl
@[simp] theorem Yt:isStr env.P 277=false:=by kernel_rfl
@[simp] theorem Xt:eS env.P 277=(some (.v (.slice none 0 0))):=by kernel_rfl
@[simp] theorem adu:Hf env.P 277=true:=by kernel_rfl
@[simp] theorem abm:pf env.P 277=true:=by kernel_rfl
@[simp] theorem ac5:mC env.P 277=2:=by kernel_rfl
@[simp] theorem abr:sV env.P 277=8:=by kernel_rfl
@[simp] theorem W1:iY env.P 277=(.agg [(a8 0),(aF 0)]):=by kernel_rfl
@[simp] theorem XU:dZ env.P 279=(some 170):=by kernel_rfl
@[simp] theorem ZE:jy env.P 279=none:=by kernel_rfl
@[simp] theorem Ys:isStr env.P 279=false:=by kernel_rfl
@[simp] theorem abl:pf env.P 279=true:=by kernel_rfl
@[simp] theorem ac4:mC env.P 279=1:=by kernel_rfl
@[simp] theorem W0:iY env.P 279=(.v (.slice none 0 0)):=by kernel_rfl
end Go.Proofs.YtmkmimgokagimaaGreat
