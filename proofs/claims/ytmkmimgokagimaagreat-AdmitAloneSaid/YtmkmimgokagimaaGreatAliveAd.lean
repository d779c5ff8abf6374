/-
  The chapter's first examples are run, call by call. No statement of a seat is proved here.
-/
import Derived.Test.YtmkmimgokagimaaGreatRows
import Derived.Test.YtmkmimgokagimaaGreatAbsEnv
set_option linter.unusedVariables false
set_option maxRecDepth 1000000
namespace Go.Proofs.YtmkmimgokagimaaGreat.adAlive
open Go.Ab Go.ChangeShapes Go.WideShapes Go.RowKit
def B(n:Int):AV := .v (.int .u8 n)
abbrev B7:=List (FuncId × List AV × AV)
def fns:List FuncId:=[9,17,25,27,29,31,44,47,48,49,50,51,52,53,54,59,69,70,71,72,76,82,84,87,88,90,91,92,95,97,98,100,101,102,103,104,105,106,108,111,112,113,114,115,116,117,118,119,120,121,122,123,124,125,126,127,128,129,135,136,137,145,146,147,148,149,150,151,152,153,159,160,161,162,163,164,165,166,167,168,169,170,171,172,173,174,175,176,182,183,184,185,186,187,188,189,190,191,192,193,202,203,205,206,207,208,209,210,211,212,213,214,215,216,217,218,219,220,225,226,227,228,229,230,231,232,233,234,235,239,240,241,242,243,244,246,247,248,249,250,251]
noncomputable def env(A4:B7):Env:=zy Tryz.prog fns [48,50,84,152,160,162,163,164,173,203,205,206,208,209,225] [69,71,72,87,88,90,92,95,97,98,100,145,146,147,148,149,150,151,153,172,193,218,219,220,230,232,233,234,241,242,250] (JA [(19,13,18),(16,1,77777),(55,1,88888),(35,147,88889),(55,72,88889),(10,48,88889),(10,50,88889),(7,5,66666)]) (xM [(15,12,0,[(20,23)]),(52,10,0,[(56,58)]),(25,34,4,[(44,43)]),(6,21,0,[(16,4),(20,4),(17,4)]),(58,23,0,[(71,61),(4,61),(5,61),(5,68)]),(7,6,0,[(3,5)])]) (PY [(19,13,18),(16,1,77777),(55,1,88888),(35,147,88889),(55,72,88889),(10,48,88889),(10,50,88889),(7,5,66666)]) A4
theorem My:KP (env []) fns=true:=by kernel_rfl
theorem follows:Tryz.prog.follows .mixedOrders=true:=by kernel_rfl
abbrev xw(T:B7):Prop :=∀p∈T,cJ Tryz.prog p.1 p.2.1 p.2.2
theorem fits{T:B7}(h:xw T):(env T).Ok (CM (env T)):=Uf h follows My
def T0:B7:=[]
theorem k0:xw T0:=Kk
def a1:List AV:=[.agg [B 1,.v (.int .i64 0),B 0,B 1,.v (.int .u32 0),B 0,.v (.int .i64 0),B 0,.v (.int .u32 0),B 0,.v (.int .i64 0),.v (.int .i64 0),B 0,.v (.int .u32 0),B 0,.v (.int .i64 0),B 0,.v (.int .u32 0),.v (.slice none 0 0),.v (.int .i64 0),.v (.int .i64 0),B 0,.v (.int .u32 0),.v (.bool false)]]
def y1:AV := .v (.int .i64 0)
theorem r1:bB (env T0) (b8 (env T0) 100000) 82 a1=some y1:=by kernel_rfl
theorem c1:cJ Tryz.prog 82 a1 y1:=ee (fits k0) r1
def a2:List AV:=[.agg [B 2,.v (.int .i64 0),B 1,B 1,.v (.int .u32 0),B 0,.v (.int .i64 1),B 1,.v (.int .u32 0),B 0,.v (.int .i64 1),.v (.int .i64 2),B 0,.v (.int .u32 0),B 0,.v (.int .i64 0),B 0,.v (.int .u32 0),.ck 1 [.v (.int .i32 0),.v (.int .i32 0)] none,.v (.int .i64 0),.v (.int .i64 0),B 0,.v (.int .u32 0),.v (.bool false)]]
def y2:AV := .v (.int .i64 0)
theorem r2:bB (env T0) (b8 (env T0) 100000) 82 a2=some y2:=by kernel_rfl
theorem c2:cJ Tryz.prog 82 a2 y2:=ee (fits k0) r2
def T1:B7:=(82,a2,y2) :: (82,a1,y1) :: T0
theorem k1:xw T1:=dn c2 (dn c1 (k0))
def a3:List AV:=[.agg [.ck 3 [.agg [B 1,.v (.int .u32 0),.v (.bool true)]] (some 1),.ck 5 [.agg [B 1,.v (.int .u32 0),.v (.int .i64 1),.v (.int .i64 2),.v (.int .i64 2)]] (some 1),.v (.int .i64 0)]]
def y3:AV := .v (.int .i64 0)
theorem r3:bB (env T1) (b8 (env T1) 100000) 102 a3=some y3:=by kernel_rfl
theorem c3:cJ Tryz.prog 102 a3 y3:=ee (fits k1) r3
def a4:List AV:=[.agg [.ck 3 [.agg [B 1,.v (.int .u32 0),.v (.bool true)]] (some 1),.ck 5 [.agg [B 1,.v (.int .u32 0),.v (.int .i64 0),.v (.int .i64 2),.v (.int .i64 2)]] (some 1),.v (.int .i64 0)]]
def y4:AV := .v (.int .i64 0)
theorem r4:bB (env T1) (b8 (env T1) 100000) 102 a4=some y4:=by kernel_rfl
theorem c4:cJ Tryz.prog 102 a4 y4:=ee (fits k1) r4
def a5:List AV:=[.agg [.ck 3 [.agg [B 1,.v (.int .u32 0),.v (.bool true)]] none,.ck 5 [.agg [B 1,.v (.int .u32 0),.v (.int .i64 0),.v (.int .i64 2),.v (.int .i64 2)]] none,.v (.int .i64 0)]]
def y5:AV := .v (.int .i64 0)
theorem r5:bB (env T1) (b8 (env T1) 100000) 102 a5=some y5:=by kernel_rfl
theorem c5:cJ Tryz.prog 102 a5 y5:=ee (fits k1) r5
def a6:List AV:=[.agg [.ck 3 [.agg [B 1,.v (.int .u32 0),.v (.bool true)]] none,.ck 5 [.agg [B 1,.v (.int .u32 0),.v (.int .i64 1),.v (.int .i64 2),.v (.int .i64 2)]] none,.v (.int .i64 0)]]
def y6:AV := .v (.int .i64 0)
theorem r6:bB (env T1) (b8 (env T1) 100000) 102 a6=some y6:=by kernel_rfl
theorem c6:cJ Tryz.prog 102 a6 y6:=ee (fits k1) r6
def T2:B7:=(102,a6,y6) :: (102,a5,y5) :: (102,a4,y4) :: (102,a3,y3) :: T1
theorem k2:xw T2:=dn c6 (dn c5 (dn c4 (dn c3 (k1))))
def a7:List AV:=[.v (.slice none 0 0),.agg [B 1,B 1,.v (.int .u32 0),B 0,.v (.int .i64 1),B 1,.v (.int .u32 0),B 0,.v (.int .i64 1),.v (.int .i64 2),B 0,.v (.int .u32 0),B 0,.v (.int .i64 0),B 0,.v (.int .u32 0),.ck 1 [.v (.int .i32 0),.v (.int .i32 0)] none]]
def y7:AV := .v (.int .i64 0)
theorem r7:bB (env T2) (b8 (env T2) 100000) 137 a7=some y7:=by kernel_rfl
theorem c7:cJ Tryz.prog 137 a7 y7:=ee (fits k2) r7
def a8:List AV:=[.ck 17 [.agg [B 1,B 1,.v (.int .u32 0),B 0,.v (.int .i64 1),B 1,.v (.int .u32 0),B 0,.v (.int .i64 1),.v (.int .i64 2),B 0,.v (.int .u32 0),B 0,.v (.int .i64 0),B 0,.v (.int .u32 0),.ck 1 [.v (.int .i32 0),.v (.int .i32 0)] none]] none,.agg [B 1,B 1,.v (.int .u32 0),B 0,.v (.int .i64 2),B 1,.v (.int .u32 0),B 0,.v (.int .i64 3),.v (.int .i64 1),B 0,.v (.int .u32 0),B 0,.v (.int .i64 0),B 0,.v (.int .u32 0),.ck 1 [.v (.int .i32 0)] none]]
def y8:AV := .v (.int .i64 0)
theorem r8:bB (env T2) (b8 (env T2) 100000) 137 a8=some y8:=by kernel_rfl
theorem c8:cJ Tryz.prog 137 a8 y8:=ee (fits k2) r8
def T3:B7:=(137,a8,y8) :: (137,a7,y7) :: T2
theorem k3:xw T3:=dn c8 (dn c7 (k2))
def a9:List AV:=[.agg [.ck 3 [.agg [B 1,.v (.int .u32 0),.v (.bool true)]] none,.ck 5 [.agg [B 1,.v (.int .u32 0),.v (.int .i64 0),.v (.int .i64 2),.v (.int .i64 2)]] none,.v (.int .i64 0)],.v (.int .i64 0),.agg [B 1,.v (.int .u32 0)]]
def y9:AV := .tup [.v (.bool true),.v (.int .i64 0)]
theorem r9:bB (env T3) (b8 (env T3) 100000) 174 a9=some y9:=by kernel_rfl
theorem c9:cJ Tryz.prog 174 a9 y9:=ee (fits k3) r9
def a10:List AV:=[.agg [.ck 3 [.agg [B 1,.v (.int .u32 0),.v (.bool true)]] none,.ck 5 [.agg [B 1,.v (.int .u32 0),.v (.int .i64 1),.v (.int .i64 2),.v (.int .i64 2)]] none,.v (.int .i64 0)],.v (.int .i64 0),.agg [B 1,.v (.int .u32 0)]]
def y10:AV := .tup [.v (.bool true),.v (.int .i64 0)]
theorem r10:bB (env T3) (b8 (env T3) 100000) 174 a10=some y10:=by kernel_rfl
theorem Y3:cJ Tryz.prog 174 a10 y10:=ee (fits k3) r10
def a11:List AV:=[.agg [.ck 3 [.agg [B 1,.v (.int .u32 0),.v (.bool true)]] none,.ck 5 [.agg [B 1,.v (.int .u32 0),.v (.int .i64 1),.v (.int .i64 2),.v (.int .i64 2)]] none,.v (.int .i64 0)],.v (.int .i64 1),.agg [B 1,.v (.int .u32 0)]]
def y11:AV := .tup [.v (.bool false),.v (.int .i64 0)]
theorem r11:bB (env T3) (b8 (env T3) 100000) 174 a11=some y11:=by kernel_rfl
theorem Y2:cJ Tryz.prog 174 a11 y11:=ee (fits k3) r11
def T4:B7:=(174,a11,y11) :: (174,a10,y10) :: (174,a9,y9) :: T3
theorem k4:xw T4:=dn Y2 (dn Y3 (dn c9 (k3)))
def a12:List AV:=[.agg [.ck 3 [.agg [B 1,.v (.int .u32 0),.v (.bool true)]] (some 1),.ck 5 [.agg [B 1,.v (.int .u32 0),.v (.int .i64 1),.v (.int .i64 2),.v (.int .i64 2)]] (some 1),.v (.int .i64 0)],.agg [B 1,.v (.int .u32 0)]]
def y12:AV := .tup [.agg [B 1,.v (.int .u32 0),.v (.int .i64 1),.v (.int .i64 2),.v (.int .i64 2)],.v (.int .i64 0)]
theorem r12:bB (env T4) (b8 (env T4) 100000) 44 a12=some y12:=by kernel_rfl
theorem Y1:cJ Tryz.prog 44 a12 y12:=ee (fits k4) r12
def a13:List AV:=[.agg [.ck 3 [.agg [B 1,.v (.int .u32 0),.v (.bool true)]] (some 1),.ck 5 [.agg [B 1,.v (.int .u32 0),.v (.int .i64 0),.v (.int .i64 2),.v (.int .i64 2)]] (some 1),.v (.int .i64 0)],.agg [B 1,.v (.int .u32 0)]]
def y13:AV := .tup [.agg [B 1,.v (.int .u32 0),.v (.int .i64 0),.v (.int .i64 2),.v (.int .i64 2)],.v (.int .i64 0)]
theorem r13:bB (env T4) (b8 (env T4) 100000) 44 a13=some y13:=by kernel_rfl
theorem Y0:cJ Tryz.prog 44 a13 y13:=ee (fits k4) r13
def T5:B7:=(44,a13,y13) :: (44,a12,y12) :: T4
theorem k5:xw T5:=dn Y0 (dn Y1 (k4))
def a14:List AV:=[.agg [.ck 3 [.agg [B 1,.v (.int .u32 0),.v (.bool true)]] (some 1),.ck 5 [.agg [B 1,.v (.int .u32 0),.v (.int .i64 1),.v (.int .i64 2),.v (.int .i64 2)]] (some 1),.v (.int .i64 0)],.ck 24 [.agg [B 1,.v (.int .i64 0),B 0,B 1,.v (.int .u32 0),B 0,.v (.int .i64 0),B 0,.v (.int .u32 0),B 0,.v (.int .i64 0),.v (.int .i64 0),B 0,.v (.int .u32 0),B 0,.v (.int .i64 0),B 0,.v (.int .u32 0),.v (.slice none 0 0),.v (.int .i64 0),.v (.int .i64 0),B 0,.v (.int .u32 0),.v (.bool false)],.agg [B 2,.v (.int .i64 0),B 1,B 1,.v (.int .u32 0),B 0,.v (.int .i64 1),B 1,.v (.int .u32 0),B 0,.v (.int .i64 1),.v (.int .i64 2),B 0,.v (.int .u32 0),B 0,.v (.int .i64 0),B 0,.v (.int .u32 0),.ck 1 [.v (.int .i32 0),.v (.int .i32 0)] none,.v (.int .i64 0),.v (.int .i64 0),B 0,.v (.int .u32 0),.v (.bool false)]] (some 2),.agg [B 1,B 1,.v (.int .u32 0),B 0,.v (.int .i64 2),B 1,.v (.int .u32 0),B 0,.v (.int .i64 3),.v (.int .i64 1),B 0,.v (.int .u32 0),B 0,.v (.int .i64 0),B 0,.v (.int .u32 0),.ck 1 [.v (.int .i32 0)] none]]
def y14:AV := .tup [.v (.int .i64 9),.v (.int .i64 0)]
theorem r14:bB (env T5) (b8 (env T5) 100000) 17 a14=some y14:=by kernel_rfl
theorem YZ:cJ Tryz.prog 17 a14 y14:=ee (fits k5) r14
def T6:B7:=(17,a14,y14) :: T5
theorem k6:xw T6:=dn YZ (k5)
def a15:List AV:=[.agg [.ck 3 [.agg [B 1,.v (.int .u32 0),.v (.bool true)]] (some 1),.ck 5 [.agg [B 1,.v (.int .u32 0),.v (.int .i64 1),.v (.int .i64 2),.v (.int .i64 2)]] (some 1),.v (.int .i64 0)],.v (.slice none 0 0)]
def y15:AV := .tup [.agg [.ck 3 [.agg [B 1,.v (.int .u32 0),.v (.bool true)]] none,.ck 5 [.agg [B 1,.v (.int .u32 0),.v (.int .i64 1),.v (.int .i64 2),.v (.int .i64 2)]] none,.v (.int .i64 0)],.v (.int .i64 0)]
theorem r15:bB (env T6) (b8 (env T6) 100000) 25 a15=some y15:=by kernel_rfl
theorem YY:cJ Tryz.prog 25 a15 y15:=ee (fits k6) r15
def a16:List AV:=[.agg [.ck 3 [.agg [B 1,.v (.int .u32 0),.v (.bool true)]] (some 1),.ck 5 [.agg [B 1,.v (.int .u32 0),.v (.int .i64 0),.v (.int .i64 2),.v (.int .i64 2)]] (some 1),.v (.int .i64 0)],.v (.slice none 0 0)]
def y16:AV := .tup [.agg [.ck 3 [.agg [B 1,.v (.int .u32 0),.v (.bool true)]] none,.ck 5 [.agg [B 1,.v (.int .u32 0),.v (.int .i64 0),.v (.int .i64 2),.v (.int .i64 2)]] none,.v (.int .i64 0)],.v (.int .i64 0)]
theorem r16:bB (env T6) (b8 (env T6) 100000) 25 a16=some y16:=by kernel_rfl
theorem YX:cJ Tryz.prog 25 a16 y16:=ee (fits k6) r16
def a17:List AV:=[.agg [.ck 3 [.agg [B 1,.v (.int .u32 0),.v (.bool true)]] (some 1),.ck 5 [.agg [B 1,.v (.int .u32 0),.v (.int .i64 1),.v (.int .i64 2),.v (.int .i64 2)]] (some 1),.v (.int .i64 0)],.ck 24 [.agg [B 1,.v (.int .i64 0),B 0,B 1,.v (.int .u32 0),B 0,.v (.int .i64 0),B 0,.v (.int .u32 0),B 0,.v (.int .i64 0),.v (.int .i64 0),B 0,.v (.int .u32 0),B 0,.v (.int .i64 0),B 0,.v (.int .u32 0),.v (.slice none 0 0),.v (.int .i64 0),.v (.int .i64 0),B 0,.v (.int .u32 0),.v (.bool false)],.agg [B 2,.v (.int .i64 0),B 1,B 1,.v (.int .u32 0),B 0,.v (.int .i64 1),B 1,.v (.int .u32 0),B 0,.v (.int .i64 1),.v (.int .i64 2),B 0,.v (.int .u32 0),B 0,.v (.int .i64 0),B 0,.v (.int .u32 0),.ck 1 [.v (.int .i32 0),.v (.int .i32 0)] none,.v (.int .i64 0),.v (.int .i64 0),B 0,.v (.int .u32 0),.v (.bool false)]] (some 2)]
def y17:AV := .tup [.agg [.ck 3 [.agg [B 1,.v (.int .u32 0),.v (.bool true)]] none,.ck 5 [.agg [B 1,.v (.int .u32 0),.v (.int .i64 1),.v (.int .i64 2),.v (.int .i64 2)]] none,.v (.int .i64 0)],.v (.int .i64 0)]
theorem r17:bB (env T6) (b8 (env T6) 100000) 25 a17=some y17:=by kernel_rfl
theorem YW:cJ Tryz.prog 25 a17 y17:=ee (fits k6) r17
def T7:B7:=(25,a17,y17) :: (25,a16,y16) :: (25,a15,y15) :: T6
theorem k7:xw T7:=dn YW (dn YX (dn YY (k6)))
def a18:List AV:=[.agg [.ck 3 [.agg [B 1,.v (.int .u32 0),.v (.bool true)]] (some 1),.ck 5 [.agg [B 1,.v (.int .u32 0),.v (.int .i64 1),.v (.int .i64 2),.v (.int .i64 2)]] (some 1),.v (.int .i64 0)],.v (.slice none 0 0),.agg [B 1,.v (.int .u32 0),B 0]]
def y18:AV := .tup [.agg [.v (.bool false),.v (.int .i64 0),.v (.int .i64 0)],.v (.int .i64 0)]
theorem r18:bB (env T7) (b8 (env T7) 100000) 27 a18=some y18:=by kernel_rfl
theorem c18:cJ Tryz.prog 27 a18 y18:=ee (fits k7) r18
def a19:List AV:=[.agg [.ck 3 [.agg [B 1,.v (.int .u32 0),.v (.bool true)]] (some 1),.ck 5 [.agg [B 1,.v (.int .u32 0),.v (.int .i64 0),.v (.int .i64 2),.v (.int .i64 2)]] (some 1),.v (.int .i64 0)],.v (.slice none 0 0),.agg [B 1,.v (.int .u32 0),B 0]]
def y19:AV := .tup [.agg [.v (.bool false),.v (.int .i64 0),.v (.int .i64 0)],.v (.int .i64 0)]
theorem r19:bB (env T7) (b8 (env T7) 100000) 27 a19=some y19:=by kernel_rfl
theorem c19:cJ Tryz.prog 27 a19 y19:=ee (fits k7) r19
def a20:List AV:=[.agg [.ck 3 [.agg [B 1,.v (.int .u32 0),.v (.bool true)]] (some 1),.ck 5 [.agg [B 1,.v (.int .u32 0),.v (.int .i64 1),.v (.int .i64 2),.v (.int .i64 2)]] (some 1),.v (.int .i64 0)],.ck 24 [.agg [B 1,.v (.int .i64 0),B 0,B 1,.v (.int .u32 0),B 0,.v (.int .i64 0),B 0,.v (.int .u32 0),B 0,.v (.int .i64 0),.v (.int .i64 0),B 0,.v (.int .u32 0),B 0,.v (.int .i64 0),B 0,.v (.int .u32 0),.v (.slice none 0 0),.v (.int .i64 0),.v (.int .i64 0),B 0,.v (.int .u32 0),.v (.bool false)],.agg [B 2,.v (.int .i64 0),B 1,B 1,.v (.int .u32 0),B 0,.v (.int .i64 1),B 1,.v (.int .u32 0),B 0,.v (.int .i64 1),.v (.int .i64 2),B 0,.v (.int .u32 0),B 0,.v (.int .i64 0),B 0,.v (.int .u32 0),.ck 1 [.v (.int .i32 0),.v (.int .i32 0)] none,.v (.int .i64 0),.v (.int .i64 0),B 0,.v (.int .u32 0),.v (.bool false)]] (some 2),.agg [B 1,.v (.int .u32 0),B 0]]
def y20:AV := .tup [.agg [.v (.bool true),.v (.int .i64 0),.v (.int .i64 1)],.v (.int .i64 0)]
theorem r20:bB (env T7) (b8 (env T7) 100000) 27 a20=some y20:=by kernel_rfl
theorem c20:cJ Tryz.prog 27 a20 y20:=ee (fits k7) r20
def T8:B7:=(27,a20,y20) :: (27,a19,y19) :: (27,a18,y18) :: T7
theorem k8:xw T8:=dn c20 (dn c19 (dn c18 (k7)))
def a21:List AV:=[.agg [.ck 3 [.agg [B 1,.v (.int .u32 0),.v (.bool true)]] (some 1),.ck 5 [.agg [B 1,.v (.int .u32 0),.v (.int .i64 1),.v (.int .i64 2),.v (.int .i64 2)]] (some 1),.v (.int .i64 0)],.ck 24 [.agg [B 1,.v (.int .i64 0),B 0,B 1,.v (.int .u32 0),B 0,.v (.int .i64 0),B 0,.v (.int .u32 0),B 0,.v (.int .i64 0),.v (.int .i64 0),B 0,.v (.int .u32 0),B 0,.v (.int .i64 0),B 0,.v (.int .u32 0),.v (.slice none 0 0),.v (.int .i64 0),.v (.int .i64 0),B 0,.v (.int .u32 0),.v (.bool false)],.agg [B 2,.v (.int .i64 0),B 1,B 1,.v (.int .u32 0),B 0,.v (.int .i64 1),B 1,.v (.int .u32 0),B 0,.v (.int .i64 1),.v (.int .i64 2),B 0,.v (.int .u32 0),B 0,.v (.int .i64 0),B 0,.v (.int .u32 0),.ck 1 [.v (.int .i32 0),.v (.int .i32 0)] none,.v (.int .i64 0),.v (.int .i64 0),B 0,.v (.int .u32 0),.v (.bool false)]] (some 2),.agg [B 1,.v (.int .u32 0),B 0],.v (.int .i64 1)]
def y21:AV := .tup [.v (.int .i64 0),.v (.int .i64 0)]
theorem r21:bB (env T8) (b8 (env T8) 100000) 29 a21=some y21:=by kernel_rfl
theorem c21:cJ Tryz.prog 29 a21 y21:=ee (fits k8) r21
def T9:B7:=(29,a21,y21) :: T8
theorem k9:xw T9:=dn c21 (k8)
def a22:List AV:=[.agg [.ck 3 [.agg [B 1,.v (.int .u32 0),.v (.bool true)]] (some 1),.ck 5 [.agg [B 1,.v (.int .u32 0),.v (.int .i64 1),.v (.int .i64 2),.v (.int .i64 2)]] (some 1),.v (.int .i64 0)],.v (.slice none 0 0),.agg [B 1,.v (.int .u32 0)]]
def y22:AV := .tup [.agg [B 1,.v (.int .u32 0),.v (.int .i64 0),.v (.int .i64 0),.v (.int .i64 0)],.v (.int .i64 0)]
theorem r22:bB (env T9) (b8 (env T9) 100000) 31 a22=some y22:=by kernel_rfl
theorem c22:cJ Tryz.prog 31 a22 y22:=ee (fits k9) r22
def a23:List AV:=[.agg [.ck 3 [.agg [B 1,.v (.int .u32 0),.v (.bool true)]] (some 1),.ck 5 [.agg [B 1,.v (.int .u32 0),.v (.int .i64 0),.v (.int .i64 2),.v (.int .i64 2)]] (some 1),.v (.int .i64 0)],.v (.slice none 0 0),.agg [B 1,.v (.int .u32 0)]]
def y23:AV := .tup [.agg [B 1,.v (.int .u32 0),.v (.int .i64 0),.v (.int .i64 0),.v (.int .i64 0)],.v (.int .i64 0)]
theorem r23:bB (env T9) (b8 (env T9) 100000) 31 a23=some y23:=by kernel_rfl
theorem c23:cJ Tryz.prog 31 a23 y23:=ee (fits k9) r23
def a24:List AV:=[.agg [.ck 3 [.agg [B 1,.v (.int .u32 0),.v (.bool true)]] (some 1),.ck 5 [.agg [B 1,.v (.int .u32 0),.v (.int .i64 1),.v (.int .i64 2),.v (.int .i64 2)]] (some 1),.v (.int .i64 0)],.ck 24 [.agg [B 1,.v (.int .i64 0),B 0,B 1,.v (.int .u32 0),B 0,.v (.int .i64 0),B 0,.v (.int .u32 0),B 0,.v (.int .i64 0),.v (.int .i64 0),B 0,.v (.int .u32 0),B 0,.v (.int .i64 0),B 0,.v (.int .u32 0),.v (.slice none 0 0),.v (.int .i64 0),.v (.int .i64 0),B 0,.v (.int .u32 0),.v (.bool false)],.agg [B 2,.v (.int .i64 0),B 1,B 1,.v (.int .u32 0),B 0,.v (.int .i64 1),B 1,.v (.int .u32 0),B 0,.v (.int .i64 1),.v (.int .i64 2),B 0,.v (.int .u32 0),B 0,.v (.int .i64 0),B 0,.v (.int .u32 0),.ck 1 [.v (.int .i32 0),.v (.int .i32 0)] none,.v (.int .i64 0),.v (.int .i64 0),B 0,.v (.int .u32 0),.v (.bool false)]] (some 2),.agg [B 1,.v (.int .u32 0)]]
def y24:AV := .tup [.agg [B 1,.v (.int .u32 0),.v (.int .i64 1),.v (.int .i64 1),.v (.int .i64 2)],.v (.int .i64 0)]
theorem r24:bB (env T9) (b8 (env T9) 100000) 31 a24=some y24:=by kernel_rfl
theorem c24:cJ Tryz.prog 31 a24 y24:=ee (fits k9) r24
def T10:B7:=(31,a24,y24) :: (31,a23,y23) :: (31,a22,y22) :: T9
theorem k10:xw T10:=dn c24 (dn c23 (dn c22 (k9)))
theorem r99:bB (env T10) (b8 (env T10) 100000) 53 []=some (.v (.bool true)):=by kernel_rfl
theorem alive:cJ Tryz.prog 53 [] (.v (.bool true)):=ee (fits k10) r99
end Go.Proofs.YtmkmimgokagimaaGreat.adAlive
