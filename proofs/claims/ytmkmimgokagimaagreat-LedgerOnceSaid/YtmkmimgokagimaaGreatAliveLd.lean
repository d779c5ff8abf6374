/-
  The chapter's first examples are run, call by call. No statement of a seat is proved here.
-/
import Derived.Test.YtmkmimgokagimaaGreatRows
import Derived.Test.YtmkmimgokagimaaGreatAbsEnv
set_option linter.unusedVariables false
set_option maxRecDepth 1000000
namespace Go.Proofs.YtmkmimgokagimaaGreat.ldAlive
open Go.Ab Go.ChangeShapes Go.WideShapes Go.RowKit
def B(n:Int):AV := .v (.int .u8 n)
abbrev Memo:=List (FuncId × List AV × AV)
def fns:List FuncId:=[6,15,17,23,27,29,31,34,36,37,38,39,40,41,44,47,64,65,69,70,71,72,76,81,82,83,84,90,91,92,95,97,98,100,101,102,103,104,105,106,108,121,135,136,137,145,146,147,148,149,150,151,152,153,159,160,161,162,163,164,165,166,167,168,169,170,171,172,173,174,176,182,183,184,185,186,187,188,189,190,191,192,193,202,203,205,206,207,208,209,210,211,212,213,214,215,216,217,218,219,220,225,226,227,228,229,230,231,232,233,234,235,239,240,241,242,243,244,246,247,248,249,250,251]
noncomputable def env(memo:Memo):Env:=xO Tryz.prog fns [37,38,84,152,160,162,163,164,173,203,205,206,208,209,225] [64,65,69,71,72,81,83,90,92,95,97,98,100,145,146,147,148,149,150,151,153,172,193,218,219,220,230,232,233,234,241,242,250] (Da [(19,13,18),(16,1,77777),(55,1,88888),(35,147,88889),(55,72,88889),(10,48,88889),(10,50,88889),(7,5,66666)]) (rT [(15,12,0,[(20,23)]),(52,10,0,[(56,58)]),(25,34,4,[(44,43)]),(6,21,0,[(16,4),(20,4),(17,4)]),(58,23,0,[(71,61),(4,61),(5,61),(5,68)]),(7,6,0,[(3,5)])]) (JT [(19,13,18),(16,1,77777),(55,1,88888),(35,147,88889),(55,72,88889),(10,48,88889),(10,50,88889),(7,5,66666)]) memo
theorem GZ:GY (env []) fns=true:=by kernel_rfl
theorem follows:Tryz.prog.follows .mixedOrders=true:=by kernel_rfl
abbrev Bw(T:Memo):Prop :=∀p∈T,db Tryz.prog p.1 p.2.1 p.2.2
theorem fits{T:Memo}(h:Bw T):(env T).Ok (yE (env T)):=Mr h follows GZ
def T0:Memo:=[]
theorem k0:Bw T0:=Dz
def a1:List AV:=[.agg [B 1,.v (.int .i64 0),B 0,B 1,.v (.int .u32 0),B 0,.v (.int .i64 0),B 0,.v (.int .u32 0),B 0,.v (.int .i64 0),.v (.int .i64 0),B 0,.v (.int .u32 0),B 0,.v (.int .i64 0),B 0,.v (.int .u32 0),.v (.slice none 0 0),.v (.int .i64 0),.v (.int .i64 0),B 0,.v (.int .u32 0),.v (.bool false)]]
def y1:AV := .v (.int .i64 0)
theorem r1:bm (env T0) (runA (env T0) 100000) 82 a1=some y1:=by kernel_rfl
theorem c1:db Tryz.prog 82 a1 y1:=gh (fits k0) r1
def a2:List AV:=[.agg [B 2,.v (.int .i64 0),B 1,B 1,.v (.int .u32 0),B 0,.v (.int .i64 1),B 1,.v (.int .u32 0),B 0,.v (.int .i64 1),.v (.int .i64 2),B 0,.v (.int .u32 0),B 0,.v (.int .i64 0),B 0,.v (.int .u32 0),.isl 1 [.v (.int .i32 0),.v (.int .i32 0)] none,.v (.int .i64 0),.v (.int .i64 0),B 0,.v (.int .u32 0),.v (.bool false)]]
def y2:AV := .v (.int .i64 0)
theorem r2:bm (env T0) (runA (env T0) 100000) 82 a2=some y2:=by kernel_rfl
theorem c2:db Tryz.prog 82 a2 y2:=gh (fits k0) r2
def a3:List AV:=[.agg [B 2,.v (.int .i64 0),B 1,B 1,.v (.int .u32 0),B 0,.v (.int .i64 2),B 1,.v (.int .u32 0),B 0,.v (.int .i64 3),.v (.int .i64 1),B 0,.v (.int .u32 0),B 0,.v (.int .i64 0),B 0,.v (.int .u32 0),.isl 1 [.v (.int .i32 0)] none,.v (.int .i64 9),.v (.int .i64 0),B 0,.v (.int .u32 0),.v (.bool false)]]
def y3:AV := .v (.int .i64 0)
theorem r3:bm (env T0) (runA (env T0) 100000) 82 a3=some y3:=by kernel_rfl
theorem c3:db Tryz.prog 82 a3 y3:=gh (fits k0) r3
def a4:List AV:=[.agg [B 2,.v (.int .i64 0),B 1,B 1,.v (.int .u32 0),B 0,.v (.int .i64 3),B 1,.v (.int .u32 0),B 0,.v (.int .i64 3),.v (.int .i64 1),B 0,.v (.int .u32 0),B 0,.v (.int .i64 0),B 0,.v (.int .u32 0),.isl 1 [.v (.int .i32 0)] none,.v (.int .i64 9),.v (.int .i64 0),B 0,.v (.int .u32 0),.v (.bool false)]]
def y4:AV := .v (.int .i64 0)
theorem r4:bm (env T0) (runA (env T0) 100000) 82 a4=some y4:=by kernel_rfl
theorem c4:db Tryz.prog 82 a4 y4:=gh (fits k0) r4
def a5:List AV:=[.agg [B 2,.v (.int .i64 0),B 1,B 1,.v (.int .u32 0),B 0,.v (.int .i64 1),B 1,.v (.int .u32 0),B 0,.v (.int .i64 1),.v (.int .i64 2),B 0,.v (.int .u32 0),B 0,.v (.int .i64 0),B 0,.v (.int .u32 0),.isl 1 [.v (.int .i32 0),.v (.int .i32 0)] none,.v (.int .i64 9),.v (.int .i64 0),B 0,.v (.int .u32 0),.v (.bool false)]]
def y5:AV := .v (.int .i64 0)
theorem r5:bm (env T0) (runA (env T0) 100000) 82 a5=some y5:=by kernel_rfl
theorem c5:db Tryz.prog 82 a5 y5:=gh (fits k0) r5
def T1:Memo:=(82,a5,y5) :: (82,a4,y4) :: (82,a3,y3) :: (82,a2,y2) :: (82,a1,y1) :: T0
theorem k1:Bw T1:=eM c5 (eM c4 (eM c3 (eM c2 (eM c1 (k0)))))
def a6:List AV:=[.agg [.isl 3 [.agg [B 1,.v (.int .u32 0),.v (.bool true)]] (some 1),.isl 5 [.agg [B 1,.v (.int .u32 0),.v (.int .i64 1),.v (.int .i64 2),.v (.int .i64 2)]] (some 1),.v (.int .i64 0)]]
def y6:AV := .v (.int .i64 0)
theorem r6:bm (env T1) (runA (env T1) 100000) 102 a6=some y6:=by kernel_rfl
theorem c6:db Tryz.prog 102 a6 y6:=gh (fits k1) r6
def a7:List AV:=[.agg [.isl 3 [.agg [B 1,.v (.int .u32 0),.v (.bool true)]] none,.isl 5 [.agg [B 1,.v (.int .u32 0),.v (.int .i64 1),.v (.int .i64 2),.v (.int .i64 2)]] none,.v (.int .i64 0)]]
def y7:AV := .v (.int .i64 0)
theorem r7:bm (env T1) (runA (env T1) 100000) 102 a7=some y7:=by kernel_rfl
theorem c7:db Tryz.prog 102 a7 y7:=gh (fits k1) r7
def T2:Memo:=(102,a7,y7) :: (102,a6,y6) :: T1
theorem k2:Bw T2:=eM c7 (eM c6 (k1))
def a8:List AV:=[.v (.slice none 0 0),.agg [B 1,B 1,.v (.int .u32 0),B 0,.v (.int .i64 1),B 1,.v (.int .u32 0),B 0,.v (.int .i64 1),.v (.int .i64 2),B 0,.v (.int .u32 0),B 0,.v (.int .i64 0),B 0,.v (.int .u32 0),.isl 1 [.v (.int .i32 0),.v (.int .i32 0)] none]]
def y8:AV := .v (.int .i64 0)
theorem r8:bm (env T2) (runA (env T2) 100000) 137 a8=some y8:=by kernel_rfl
theorem c8:db Tryz.prog 137 a8 y8:=gh (fits k2) r8
def a9:List AV:=[.isl 17 [.agg [B 1,B 1,.v (.int .u32 0),B 0,.v (.int .i64 1),B 1,.v (.int .u32 0),B 0,.v (.int .i64 1),.v (.int .i64 2),B 0,.v (.int .u32 0),B 0,.v (.int .i64 0),B 0,.v (.int .u32 0),.isl 1 [.v (.int .i32 0),.v (.int .i32 0)] none]] none,.agg [B 1,B 1,.v (.int .u32 0),B 0,.v (.int .i64 2),B 1,.v (.int .u32 0),B 0,.v (.int .i64 3),.v (.int .i64 1),B 0,.v (.int .u32 0),B 0,.v (.int .i64 0),B 0,.v (.int .u32 0),.isl 1 [.v (.int .i32 0)] none]]
def y9:AV := .v (.int .i64 0)
theorem r9:bm (env T2) (runA (env T2) 100000) 137 a9=some y9:=by kernel_rfl
theorem c9:db Tryz.prog 137 a9 y9:=gh (fits k2) r9
def T3:Memo:=(137,a9,y9) :: (137,a8,y8) :: T2
theorem k3:Bw T3:=eM c9 (eM c8 (k2))
def a11:List AV:=[.agg [.isl 3 [.agg [B 1,.v (.int .u32 0),.v (.bool true)]] (some 1),.isl 5 [.agg [B 1,.v (.int .u32 0),.v (.int .i64 1),.v (.int .i64 2),.v (.int .i64 2)]] (some 1),.v (.int .i64 0)],.isl 24 [.agg [B 1,.v (.int .i64 0),B 0,B 1,.v (.int .u32 0),B 0,.v (.int .i64 0),B 0,.v (.int .u32 0),B 0,.v (.int .i64 0),.v (.int .i64 0),B 0,.v (.int .u32 0),B 0,.v (.int .i64 0),B 0,.v (.int .u32 0),.v (.slice none 0 0),.v (.int .i64 0),.v (.int .i64 0),B 0,.v (.int .u32 0),.v (.bool false)]] (some 1),.agg [B 1,B 1,.v (.int .u32 0),B 0,.v (.int .i64 1),B 1,.v (.int .u32 0),B 0,.v (.int .i64 1),.v (.int .i64 2),B 0,.v (.int .u32 0),B 0,.v (.int .i64 0),B 0,.v (.int .u32 0),.isl 1 [.v (.int .i32 0),.v (.int .i32 0)] none]]
def y11:AV := .tup [.v (.int .i64 0),.v (.int .i64 0)]
theorem r11:bm (env T3) (runA (env T3) 100000) 17 a11=some y11:=by kernel_rfl
theorem c11:db Tryz.prog 17 a11 y11:=gh (fits k3) r11
def a12:List AV:=[.agg [.isl 3 [.agg [B 1,.v (.int .u32 0),.v (.bool true)]] (some 1),.isl 5 [.agg [B 1,.v (.int .u32 0),.v (.int .i64 1),.v (.int .i64 2),.v (.int .i64 2)]] (some 1),.v (.int .i64 0)],.isl 24 [.agg [B 1,.v (.int .i64 0),B 0,B 1,.v (.int .u32 0),B 0,.v (.int .i64 0),B 0,.v (.int .u32 0),B 0,.v (.int .i64 0),.v (.int .i64 0),B 0,.v (.int .u32 0),B 0,.v (.int .i64 0),B 0,.v (.int .u32 0),.v (.slice none 0 0),.v (.int .i64 0),.v (.int .i64 0),B 0,.v (.int .u32 0),.v (.bool false)],.agg [B 2,.v (.int .i64 0),B 1,B 1,.v (.int .u32 0),B 0,.v (.int .i64 1),B 1,.v (.int .u32 0),B 0,.v (.int .i64 1),.v (.int .i64 2),B 0,.v (.int .u32 0),B 0,.v (.int .i64 0),B 0,.v (.int .u32 0),.isl 1 [.v (.int .i32 0),.v (.int .i32 0)] none,.v (.int .i64 0),.v (.int .i64 0),B 0,.v (.int .u32 0),.v (.bool false)]] none,.agg [B 1,B 1,.v (.int .u32 0),B 0,.v (.int .i64 2),B 1,.v (.int .u32 0),B 0,.v (.int .i64 3),.v (.int .i64 1),B 0,.v (.int .u32 0),B 0,.v (.int .i64 0),B 0,.v (.int .u32 0),.isl 1 [.v (.int .i32 0)] none]]
def y12:AV := .tup [.v (.int .i64 9),.v (.int .i64 0)]
theorem r12:bm (env T3) (runA (env T3) 100000) 17 a12=some y12:=by kernel_rfl
theorem c12:db Tryz.prog 17 a12 y12:=gh (fits k3) r12
def T5:Memo:=(17,a12,y12) :: (17,a11,y11) :: T3
theorem k5:Bw T5:=eM c12 (eM c11 (k3))
def a15:List AV:=[.agg [.isl 3 [.agg [B 1,.v (.int .u32 0),.v (.bool true)]] (some 1),.isl 5 [.agg [B 1,.v (.int .u32 0),.v (.int .i64 1),.v (.int .i64 2),.v (.int .i64 2)]] (some 1),.v (.int .i64 0)],.isl 24 [.agg [B 1,.v (.int .i64 0),B 0,B 1,.v (.int .u32 0),B 0,.v (.int .i64 0),B 0,.v (.int .u32 0),B 0,.v (.int .i64 0),.v (.int .i64 0),B 0,.v (.int .u32 0),B 0,.v (.int .i64 0),B 0,.v (.int .u32 0),.v (.slice none 0 0),.v (.int .i64 0),.v (.int .i64 0),B 0,.v (.int .u32 0),.v (.bool false)],.agg [B 2,.v (.int .i64 0),B 1,B 1,.v (.int .u32 0),B 0,.v (.int .i64 1),B 1,.v (.int .u32 0),B 0,.v (.int .i64 1),.v (.int .i64 2),B 0,.v (.int .u32 0),B 0,.v (.int .i64 0),B 0,.v (.int .u32 0),.isl 1 [.v (.int .i32 0),.v (.int .i32 0)] none,.v (.int .i64 0),.v (.int .i64 0),B 0,.v (.int .u32 0),.v (.bool false)],.agg [B 2,.v (.int .i64 0),B 1,B 1,.v (.int .u32 0),B 0,.v (.int .i64 2),B 1,.v (.int .u32 0),B 0,.v (.int .i64 3),.v (.int .i64 1),B 0,.v (.int .u32 0),B 0,.v (.int .i64 0),B 0,.v (.int .u32 0),.isl 1 [.v (.int .i32 0)] none,.v (.int .i64 9),.v (.int .i64 0),B 0,.v (.int .u32 0),.v (.bool false)]] (some 3),.agg [B 1,.v (.int .u32 0),B 0]]
def y15:AV := .tup [.agg [.v (.bool true),.v (.int .i64 0),.v (.int .i64 2)],.v (.int .i64 0)]
theorem r15:bm (env T5) (runA (env T5) 100000) 27 a15=some y15:=by kernel_rfl
theorem c15:db Tryz.prog 27 a15 y15:=gh (fits k5) r15
def a16:List AV:=[.agg [.isl 3 [.agg [B 1,.v (.int .u32 0),.v (.bool true)]] (some 1),.isl 5 [.agg [B 1,.v (.int .u32 0),.v (.int .i64 1),.v (.int .i64 2),.v (.int .i64 2)]] (some 1),.v (.int .i64 0)],.isl 24 [.agg [B 1,.v (.int .i64 0),B 0,B 1,.v (.int .u32 0),B 0,.v (.int .i64 0),B 0,.v (.int .u32 0),B 0,.v (.int .i64 0),.v (.int .i64 0),B 0,.v (.int .u32 0),B 0,.v (.int .i64 0),B 0,.v (.int .u32 0),.v (.slice none 0 0),.v (.int .i64 0),.v (.int .i64 0),B 0,.v (.int .u32 0),.v (.bool false)]] (some 1),.agg [B 1,.v (.int .u32 0),B 0]]
def y16:AV := .tup [.agg [.v (.bool true),.v (.int .i64 0),.v (.int .i64 0)],.v (.int .i64 0)]
theorem r16:bm (env T5) (runA (env T5) 100000) 27 a16=some y16:=by kernel_rfl
theorem c16:db Tryz.prog 27 a16 y16:=gh (fits k5) r16
def T7:Memo:=(27,a16,y16) :: (27,a15,y15) :: T5
theorem k7:Bw T7:=eM c16 (eM c15 (k5))
def a19:List AV:=[.agg [.isl 3 [.agg [B 1,.v (.int .u32 0),.v (.bool true)]] (some 1),.isl 5 [.agg [B 1,.v (.int .u32 0),.v (.int .i64 1),.v (.int .i64 2),.v (.int .i64 2)]] (some 1),.v (.int .i64 0)],.isl 24 [.agg [B 1,.v (.int .i64 0),B 0,B 1,.v (.int .u32 0),B 0,.v (.int .i64 0),B 0,.v (.int .u32 0),B 0,.v (.int .i64 0),.v (.int .i64 0),B 0,.v (.int .u32 0),B 0,.v (.int .i64 0),B 0,.v (.int .u32 0),.v (.slice none 0 0),.v (.int .i64 0),.v (.int .i64 0),B 0,.v (.int .u32 0),.v (.bool false)],.agg [B 2,.v (.int .i64 0),B 1,B 1,.v (.int .u32 0),B 0,.v (.int .i64 1),B 1,.v (.int .u32 0),B 0,.v (.int .i64 1),.v (.int .i64 2),B 0,.v (.int .u32 0),B 0,.v (.int .i64 0),B 0,.v (.int .u32 0),.isl 1 [.v (.int .i32 0),.v (.int .i32 0)] none,.v (.int .i64 0),.v (.int .i64 0),B 0,.v (.int .u32 0),.v (.bool false)]] none,.agg [B 1,.v (.int .u32 0)]]
def y19:AV := .tup [.agg [B 1,.v (.int .u32 0),.v (.int .i64 1),.v (.int .i64 1),.v (.int .i64 2)],.v (.int .i64 0)]
theorem r19:bm (env T7) (runA (env T7) 100000) 31 a19=some y19:=by kernel_rfl
theorem c19:db Tryz.prog 31 a19 y19:=gh (fits k7) r19
def a20:List AV:=[.agg [.isl 3 [.agg [B 1,.v (.int .u32 0),.v (.bool true)]] (some 1),.isl 5 [.agg [B 1,.v (.int .u32 0),.v (.int .i64 1),.v (.int .i64 2),.v (.int .i64 2)]] (some 1),.v (.int .i64 0)],.isl 24 [.agg [B 1,.v (.int .i64 0),B 0,B 1,.v (.int .u32 0),B 0,.v (.int .i64 0),B 0,.v (.int .u32 0),B 0,.v (.int .i64 0),.v (.int .i64 0),B 0,.v (.int .u32 0),B 0,.v (.int .i64 0),B 0,.v (.int .u32 0),.v (.slice none 0 0),.v (.int .i64 0),.v (.int .i64 0),B 0,.v (.int .u32 0),.v (.bool false)],.agg [B 2,.v (.int .i64 0),B 1,B 1,.v (.int .u32 0),B 0,.v (.int .i64 1),B 1,.v (.int .u32 0),B 0,.v (.int .i64 1),.v (.int .i64 2),B 0,.v (.int .u32 0),B 0,.v (.int .i64 0),B 0,.v (.int .u32 0),.isl 1 [.v (.int .i32 0),.v (.int .i32 0)] none,.v (.int .i64 0),.v (.int .i64 0),B 0,.v (.int .u32 0),.v (.bool false)],.agg [B 2,.v (.int .i64 0),B 1,B 1,.v (.int .u32 0),B 0,.v (.int .i64 2),B 1,.v (.int .u32 0),B 0,.v (.int .i64 3),.v (.int .i64 1),B 0,.v (.int .u32 0),B 0,.v (.int .i64 0),B 0,.v (.int .u32 0),.isl 1 [.v (.int .i32 0)] none,.v (.int .i64 9),.v (.int .i64 0),B 0,.v (.int .u32 0),.v (.bool false)]] (some 3),.agg [B 1,.v (.int .u32 0)]]
def y20:AV := .tup [.agg [B 1,.v (.int .u32 0),.v (.int .i64 1),.v (.int .i64 2),.v (.int .i64 2)],.v (.int .i64 0)]
theorem r20:bm (env T7) (runA (env T7) 100000) 31 a20=some y20:=by kernel_rfl
theorem c20:db Tryz.prog 31 a20 y20:=gh (fits k7) r20
def T9:Memo:=(31,a20,y20) :: (31,a19,y19) :: T7
theorem k9:Bw T9:=eM c20 (eM c19 (k7))
def a22:List AV:=[]
def y22:AV := .v (.bool true)
theorem r22:bm (env T9) (runA (env T9) 100000) 36 a22=some y22:=by kernel_rfl
theorem c22:db Tryz.prog 36 a22 y22:=gh (fits k9) r22
theorem alive:db Tryz.prog 36 [] (.v (.bool true)):=c22
end Go.Proofs.YtmkmimgokagimaaGreat.ldAlive
