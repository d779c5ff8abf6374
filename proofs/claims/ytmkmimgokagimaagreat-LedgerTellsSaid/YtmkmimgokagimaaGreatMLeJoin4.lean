/-
  The chapter's first examples are run, call by call. No statement of a seat is proved here.
-/
import Derived.Test.YtmkmimgokagimaaGreatRows
import Derived.Test.YtmkmimgokagimaaGreatAbsEnv
set_option linter.unusedVariables false
set_option linter.unusedSimpArgs false
set_option linter.unusedSectionVars false
set_option linter.unnecessarySimpa false
set_option maxRecDepth 1000000
namespace Go.Proofs.YtmkmimgokagimaaGreat.ldAlive
open Go.Ab Go.ChangeShapes Go.WideShapes Go.RowKit
def B(n:Int):AV := .v (.int .u8 n)
abbrev Ig:=List (FuncId × List AV × AV)
def fns:List FuncId:=[6,15,17,23,27,29,31,34,36,37,38,39,40,41,44,47,64,65,69,70,71,72,76,81,82,83,84,90,91,92,95,97,98,100,101,102,103,104,105,106,108,121,135,136,137,145,146,147,148,149,150,151,152,153,159,160,161,162,163,164,165,166,167,168,169,170,171,172,173,174,176,182,183,184,185,186,187,188,189,190,191,192,193,202,203,205,206,207,208,209,210,211,212,213,214,215,216,217,218,219,220,225,226,227,228,229,230,231,232,233,234,235,239,240,241,242,243,244,246,247,248,249,250,251]
noncomputable def env(CR:Ig):Env:=BB Tryz.prog fns [37,38,84,152,160,162,163,164,173,203,205,206,208,209,225] [64,65,69,71,72,81,83,90,92,95,97,98,100,145,146,147,148,149,150,151,153,172,193,218,219,220,230,232,233,234,241,242,250] (Ld [(19,13,18),(16,1,77777),(55,1,88888),(35,147,88889),(55,72,88889),(10,48,88889),(10,50,88889),(7,5,66666)]) (Al [(15,12,0,[(20,23)]),(52,10,0,[(56,58)]),(25,34,4,[(44,43)]),(6,21,0,[(16,4),(20,4),(17,4)]),(58,23,0,[(71,61),(4,61),(5,61),(5,68)]),(7,6,0,[(3,5)])]) (SY [(19,13,18),(16,1,77777),(55,1,88888),(35,147,88889),(55,72,88889),(10,48,88889),(10,50,88889),(7,5,66666)]) CR
theorem O8:MD (env []) fns=true:=by kernel_rfl
theorem follows:Tryz.prog.follows .mixedOrders=true:=by kernel_rfl
abbrev ET(T:Ig):Prop :=∀p∈T,cW Tryz.prog p.1 p.2.1 p.2.2
theorem fits{T:Ig}(h:ET T):(env T).Ok (D7 (env T)):=Xz h follows O8
def T0:Ig:=[]
theorem k0:ET T0:=Ma
def a1:List AV:=[.agg [B 1,.v (.int .i64 0),B 0,B 1,.v (.int .u32 0),B 0,.v (.int .i64 0),B 0,.v (.int .u32 0),B 0,.v (.int .i64 0),.v (.int .i64 0),B 0,.v (.int .u32 0),B 0,.v (.int .i64 0),B 0,.v (.int .u32 0),.v (.slice none 0 0),.v (.int .i64 0),.v (.int .i64 0),B 0,.v (.int .u32 0),.v (.bool false)]]
def y1:AV := .v (.int .i64 0)
theorem r1:bG (env T0) (bR (env T0) 100000) 82 a1=some y1:=by kernel_rfl
theorem c1:cW Tryz.prog 82 a1 y1:=jS (fits k0) r1
def a2:List AV:=[.agg [B 2,.v (.int .i64 0),B 1,B 1,.v (.int .u32 0),B 0,.v (.int .i64 1),B 1,.v (.int .u32 0),B 0,.v (.int .i64 1),.v (.int .i64 2),B 0,.v (.int .u32 0),B 0,.v (.int .i64 0),B 0,.v (.int .u32 0),.bW 1 [.v (.int .i32 0),.v (.int .i32 0)] none,.v (.int .i64 0),.v (.int .i64 0),B 0,.v (.int .u32 0),.v (.bool false)]]
def y2:AV := .v (.int .i64 0)
theorem r2:bG (env T0) (bR (env T0) 100000) 82 a2=some y2:=by kernel_rfl
theorem c2:cW Tryz.prog 82 a2 y2:=jS (fits k0) r2
def a3:List AV:=[.agg [B 2,.v (.int .i64 0),B 1,B 1,.v (.int .u32 0),B 0,.v (.int .i64 2),B 1,.v (.int .u32 0),B 0,.v (.int .i64 3),.v (.int .i64 1),B 0,.v (.int .u32 0),B 0,.v (.int .i64 0),B 0,.v (.int .u32 0),.bW 1 [.v (.int .i32 0)] none,.v (.int .i64 9),.v (.int .i64 0),B 0,.v (.int .u32 0),.v (.bool false)]]
def y3:AV := .v (.int .i64 0)
theorem r3:bG (env T0) (bR (env T0) 100000) 82 a3=some y3:=by kernel_rfl
theorem c3:cW Tryz.prog 82 a3 y3:=jS (fits k0) r3
def a4:List AV:=[.agg [B 2,.v (.int .i64 0),B 1,B 1,.v (.int .u32 0),B 0,.v (.int .i64 3),B 1,.v (.int .u32 0),B 0,.v (.int .i64 3),.v (.int .i64 1),B 0,.v (.int .u32 0),B 0,.v (.int .i64 0),B 0,.v (.int .u32 0),.bW 1 [.v (.int .i32 0)] none,.v (.int .i64 9),.v (.int .i64 0),B 0,.v (.int .u32 0),.v (.bool false)]]
def y4:AV := .v (.int .i64 0)
theorem r4:bG (env T0) (bR (env T0) 100000) 82 a4=some y4:=by kernel_rfl
theorem c4:cW Tryz.prog 82 a4 y4:=jS (fits k0) r4
def a5:List AV:=[.agg [B 2,.v (.int .i64 0),B 1,B 1,.v (.int .u32 0),B 0,.v (.int .i64 1),B 1,.v (.int .u32 0),B 0,.v (.int .i64 1),.v (.int .i64 2),B 0,.v (.int .u32 0),B 0,.v (.int .i64 0),B 0,.v (.int .u32 0),.bW 1 [.v (.int .i32 0),.v (.int .i32 0)] none,.v (.int .i64 9),.v (.int .i64 0),B 0,.v (.int .u32 0),.v (.bool false)]]
def y5:AV := .v (.int .i64 0)
theorem r5:bG (env T0) (bR (env T0) 100000) 82 a5=some y5:=by kernel_rfl
theorem c5:cW Tryz.prog 82 a5 y5:=jS (fits k0) r5
def T1:Ig:=(82,a5,y5) :: (82,a4,y4) :: (82,a3,y3) :: (82,a2,y2) :: (82,a1,y1) :: T0
theorem k1:ET T1:=ia c5 (ia c4 (ia c3 (ia c2 (ia c1 (k0)))))
def a6:List AV:=[.agg [.bW 3 [.agg [B 1,.v (.int .u32 0),.v (.bool true)]] (some 1),.bW 5 [.agg [B 1,.v (.int .u32 0),.v (.int .i64 1),.v (.int .i64 2),.v (.int .i64 2)]] (some 1),.v (.int .i64 0)]]
def y6:AV := .v (.int .i64 0)
theorem r6:bG (env T1) (bR (env T1) 100000) 102 a6=some y6:=by kernel_rfl
theorem c6:cW Tryz.prog 102 a6 y6:=jS (fits k1) r6
def a7:List AV:=[.agg [.bW 3 [.agg [B 1,.v (.int .u32 0),.v (.bool true)]] none,.bW 5 [.agg [B 1,.v (.int .u32 0),.v (.int .i64 1),.v (.int .i64 2),.v (.int .i64 2)]] none,.v (.int .i64 0)]]
def y7:AV := .v (.int .i64 0)
theorem r7:bG (env T1) (bR (env T1) 100000) 102 a7=some y7:=by kernel_rfl
theorem c7:cW Tryz.prog 102 a7 y7:=jS (fits k1) r7
def T2:Ig:=(102,a7,y7) :: (102,a6,y6) :: T1
theorem k2:ET T2:=ia c7 (ia c6 (k1))
def a8:List AV:=[.v (.slice none 0 0),.agg [B 1,B 1,.v (.int .u32 0),B 0,.v (.int .i64 1),B 1,.v (.int .u32 0),B 0,.v (.int .i64 1),.v (.int .i64 2),B 0,.v (.int .u32 0),B 0,.v (.int .i64 0),B 0,.v (.int .u32 0),.bW 1 [.v (.int .i32 0),.v (.int .i32 0)] none]]
def y8:AV := .v (.int .i64 0)
theorem r8:bG (env T2) (bR (env T2) 100000) 137 a8=some y8:=by kernel_rfl
theorem c8:cW Tryz.prog 137 a8 y8:=jS (fits k2) r8
def a9:List AV:=[.bW 17 [.agg [B 1,B 1,.v (.int .u32 0),B 0,.v (.int .i64 1),B 1,.v (.int .u32 0),B 0,.v (.int .i64 1),.v (.int .i64 2),B 0,.v (.int .u32 0),B 0,.v (.int .i64 0),B 0,.v (.int .u32 0),.bW 1 [.v (.int .i32 0),.v (.int .i32 0)] none]] none,.agg [B 1,B 1,.v (.int .u32 0),B 0,.v (.int .i64 2),B 1,.v (.int .u32 0),B 0,.v (.int .i64 3),.v (.int .i64 1),B 0,.v (.int .u32 0),B 0,.v (.int .i64 0),B 0,.v (.int .u32 0),.bW 1 [.v (.int .i32 0)] none]]
def y9:AV := .v (.int .i64 0)
theorem r9:bG (env T2) (bR (env T2) 100000) 137 a9=some y9:=by kernel_rfl
theorem c9:cW Tryz.prog 137 a9 y9:=jS (fits k2) r9
def T3:Ig:=(137,a9,y9) :: (137,a8,y8) :: T2
theorem k3:ET T3:=ia c9 (ia c8 (k2))
def Ni:List AV:=[.agg [.bW 3 [.agg [B 1,.v (.int .u32 0),.v (.bool true)]] (some 1),.bW 5 [.agg [B 1,.v (.int .u32 0),.v (.int .i64 1),.v (.int .i64 2),.v (.int .i64 2)]] (some 1),.v (.int .i64 0)],.bW 24 [.agg [B 1,.v (.int .i64 0),B 0,B 1,.v (.int .u32 0),B 0,.v (.int .i64 0),B 0,.v (.int .u32 0),B 0,.v (.int .i64 0),.v (.int .i64 0),B 0,.v (.int .u32 0),B 0,.v (.int .i64 0),B 0,.v (.int .u32 0),.v (.slice none 0 0),.v (.int .i64 0),.v (.int .i64 0),B 0,.v (.int .u32 0),.v (.bool false)]] (some 1),.agg [B 1,B 1,.v (.int .u32 0),B 0,.v (.int .i64 1),B 1,.v (.int .u32 0),B 0,.v (.int .i64 1),.v (.int .i64 2),B 0,.v (.int .u32 0),B 0,.v (.int .i64 0),B 0,.v (.int .u32 0),.bW 1 [.v (.int .i32 0),.v (.int .i32 0)] none]]
def y11:AV := .tup [.v (.int .i64 0),.v (.int .i64 0)]
theorem r11:bG (env T3) (bR (env T3) 100000) 17 Ni=some y11:=by kernel_rfl
theorem c11:cW Tryz.prog 17 Ni y11:=jS (fits k3) r11
def Nh:List AV:=[.agg [.bW 3 [.agg [B 1,.v (.int .u32 0),.v (.bool true)]] (some 1),.bW 5 [.agg [B 1,.v (.int .u32 0),.v (.int .i64 1),.v (.int .i64 2),.v (.int .i64 2)]] (some 1),.v (.int .i64 0)],.bW 24 [.agg [B 1,.v (.int .i64 0),B 0,B 1,.v (.int .u32 0),B 0,.v (.int .i64 0),B 0,.v (.int .u32 0),B 0,.v (.int .i64 0),.v (.int .i64 0),B 0,.v (.int .u32 0),B 0,.v (.int .i64 0),B 0,.v (.int .u32 0),.v (.slice none 0 0),.v (.int .i64 0),.v (.int .i64 0),B 0,.v (.int .u32 0),.v (.bool false)],.agg [B 2,.v (.int .i64 0),B 1,B 1,.v (.int .u32 0),B 0,.v (.int .i64 1),B 1,.v (.int .u32 0),B 0,.v (.int .i64 1),.v (.int .i64 2),B 0,.v (.int .u32 0),B 0,.v (.int .i64 0),B 0,.v (.int .u32 0),.bW 1 [.v (.int .i32 0),.v (.int .i32 0)] none,.v (.int .i64 0),.v (.int .i64 0),B 0,.v (.int .u32 0),.v (.bool false)]] none,.agg [B 1,B 1,.v (.int .u32 0),B 0,.v (.int .i64 2),B 1,.v (.int .u32 0),B 0,.v (.int .i64 3),.v (.int .i64 1),B 0,.v (.int .u32 0),B 0,.v (.int .i64 0),B 0,.v (.int .u32 0),.bW 1 [.v (.int .i32 0)] none]]
def y12:AV := .tup [.v (.int .i64 9),.v (.int .i64 0)]
theorem r12:bG (env T3) (bR (env T3) 100000) 17 Nh=some y12:=by kernel_rfl
theorem c12:cW Tryz.prog 17 Nh y12:=jS (fits k3) r12
def T5:Ig:=(17,Nh,y12) :: (17,Ni,y11) :: T3
theorem k5:ET T5:=ia c12 (ia c11 (k3))
def Pt:List AV:=[.agg [.bW 3 [.agg [B 1,.v (.int .u32 0),.v (.bool true)]] (some 1),.bW 5 [.agg [B 1,.v (.int .u32 0),.v (.int .i64 1),.v (.int .i64 2),.v (.int .i64 2)]] (some 1),.v (.int .i64 0)],.bW 24 [.agg [B 1,.v (.int .i64 0),B 0,B 1,.v (.int .u32 0),B 0,.v (.int .i64 0),B 0,.v (.int .u32 0),B 0,.v (.int .i64 0),.v (.int .i64 0),B 0,.v (.int .u32 0),B 0,.v (.int .i64 0),B 0,.v (.int .u32 0),.v (.slice none 0 0),.v (.int .i64 0),.v (.int .i64 0),B 0,.v (.int .u32 0),.v (.bool false)],.agg [B 2,.v (.int .i64 0),B 1,B 1,.v (.int .u32 0),B 0,.v (.int .i64 1),B 1,.v (.int .u32 0),B 0,.v (.int .i64 1),.v (.int .i64 2),B 0,.v (.int .u32 0),B 0,.v (.int .i64 0),B 0,.v (.int .u32 0),.bW 1 [.v (.int .i32 0),.v (.int .i32 0)] none,.v (.int .i64 0),.v (.int .i64 0),B 0,.v (.int .u32 0),.v (.bool false)],.agg [B 2,.v (.int .i64 0),B 1,B 1,.v (.int .u32 0),B 0,.v (.int .i64 2),B 1,.v (.int .u32 0),B 0,.v (.int .i64 3),.v (.int .i64 1),B 0,.v (.int .u32 0),B 0,.v (.int .i64 0),B 0,.v (.int .u32 0),.bW 1 [.v (.int .i32 0)] none,.v (.int .i64 9),.v (.int .i64 0),B 0,.v (.int .u32 0),.v (.bool false)]] (some 3),.agg [B 1,.v (.int .u32 0),B 0]]
def y15:AV := .tup [.agg [.v (.bool true),.v (.int .i64 0),.v (.int .i64 2)],.v (.int .i64 0)]
theorem r15:bG (env T5) (bR (env T5) 100000) 27 Pt=some y15:=by kernel_rfl
theorem c15:cW Tryz.prog 27 Pt y15:=jS (fits k5) r15
def Ps:List AV:=[.agg [.bW 3 [.agg [B 1,.v (.int .u32 0),.v (.bool true)]] (some 1),.bW 5 [.agg [B 1,.v (.int .u32 0),.v (.int .i64 1),.v (.int .i64 2),.v (.int .i64 2)]] (some 1),.v (.int .i64 0)],.bW 24 [.agg [B 1,.v (.int .i64 0),B 0,B 1,.v (.int .u32 0),B 0,.v (.int .i64 0),B 0,.v (.int .u32 0),B 0,.v (.int .i64 0),.v (.int .i64 0),B 0,.v (.int .u32 0),B 0,.v (.int .i64 0),B 0,.v (.int .u32 0),.v (.slice none 0 0),.v (.int .i64 0),.v (.int .i64 0),B 0,.v (.int .u32 0),.v (.bool false)]] (some 1),.agg [B 1,.v (.int .u32 0),B 0]]
def y16:AV := .tup [.agg [.v (.bool true),.v (.int .i64 0),.v (.int .i64 0)],.v (.int .i64 0)]
theorem r16:bG (env T5) (bR (env T5) 100000) 27 Ps=some y16:=by kernel_rfl
theorem c16:cW Tryz.prog 27 Ps y16:=jS (fits k5) r16
def T7:Ig:=(27,Ps,y16) :: (27,Pt,y15) :: T5
theorem k7:ET T7:=ia c16 (ia c15 (k5))
def a19:List AV:=[.agg [.bW 3 [.agg [B 1,.v (.int .u32 0),.v (.bool true)]] (some 1),.bW 5 [.agg [B 1,.v (.int .u32 0),.v (.int .i64 1),.v (.int .i64 2),.v (.int .i64 2)]] (some 1),.v (.int .i64 0)],.bW 24 [.agg [B 1,.v (.int .i64 0),B 0,B 1,.v (.int .u32 0),B 0,.v (.int .i64 0),B 0,.v (.int .u32 0),B 0,.v (.int .i64 0),.v (.int .i64 0),B 0,.v (.int .u32 0),B 0,.v (.int .i64 0),B 0,.v (.int .u32 0),.v (.slice none 0 0),.v (.int .i64 0),.v (.int .i64 0),B 0,.v (.int .u32 0),.v (.bool false)],.agg [B 2,.v (.int .i64 0),B 1,B 1,.v (.int .u32 0),B 0,.v (.int .i64 1),B 1,.v (.int .u32 0),B 0,.v (.int .i64 1),.v (.int .i64 2),B 0,.v (.int .u32 0),B 0,.v (.int .i64 0),B 0,.v (.int .u32 0),.bW 1 [.v (.int .i32 0),.v (.int .i32 0)] none,.v (.int .i64 0),.v (.int .i64 0),B 0,.v (.int .u32 0),.v (.bool false)]] none,.agg [B 1,.v (.int .u32 0)]]
def y19:AV := .tup [.agg [B 1,.v (.int .u32 0),.v (.int .i64 1),.v (.int .i64 1),.v (.int .i64 2)],.v (.int .i64 0)]
theorem r19:bG (env T7) (bR (env T7) 100000) 31 a19=some y19:=by kernel_rfl
theorem c19:cW Tryz.prog 31 a19 y19:=jS (fits k7) r19
def a20:List AV:=[.agg [.bW 3 [.agg [B 1,.v (.int .u32 0),.v (.bool true)]] (some 1),.bW 5 [.agg [B 1,.v (.int .u32 0),.v (.int .i64 1),.v (.int .i64 2),.v (.int .i64 2)]] (some 1),.v (.int .i64 0)],.bW 24 [.agg [B 1,.v (.int .i64 0),B 0,B 1,.v (.int .u32 0),B 0,.v (.int .i64 0),B 0,.v (.int .u32 0),B 0,.v (.int .i64 0),.v (.int .i64 0),B 0,.v (.int .u32 0),B 0,.v (.int .i64 0),B 0,.v (.int .u32 0),.v (.slice none 0 0),.v (.int .i64 0),.v (.int .i64 0),B 0,.v (.int .u32 0),.v (.bool false)],.agg [B 2,.v (.int .i64 0),B 1,B 1,.v (.int .u32 0),B 0,.v (.int .i64 1),B 1,.v (.int .u32 0),B 0,.v (.int .i64 1),.v (.int .i64 2),B 0,.v (.int .u32 0),B 0,.v (.int .i64 0),B 0,.v (.int .u32 0),.bW 1 [.v (.int .i32 0),.v (.int .i32 0)] none,.v (.int .i64 0),.v (.int .i64 0),B 0,.v (.int .u32 0),.v (.bool false)],.agg [B 2,.v (.int .i64 0),B 1,B 1,.v (.int .u32 0),B 0,.v (.int .i64 2),B 1,.v (.int .u32 0),B 0,.v (.int .i64 3),.v (.int .i64 1),B 0,.v (.int .u32 0),B 0,.v (.int .i64 0),B 0,.v (.int .u32 0),.bW 1 [.v (.int .i32 0)] none,.v (.int .i64 9),.v (.int .i64 0),B 0,.v (.int .u32 0),.v (.bool false)]] (some 3),.agg [B 1,.v (.int .u32 0)]]
def y20:AV := .tup [.agg [B 1,.v (.int .u32 0),.v (.int .i64 1),.v (.int .i64 2),.v (.int .i64 2)],.v (.int .i64 0)]
theorem r20:bG (env T7) (bR (env T7) 100000) 31 a20=some y20:=by kernel_rfl
theorem c20:cW Tryz.prog 31 a20 y20:=jS (fits k7) r20
def T9:Ig:=(31,a20,y20) :: (31,a19,y19) :: T7
theorem k9:ET T9:=ia c20 (ia c19 (k7))
def a22:List AV:=[]
def y22:AV := .v (.bool true)
theorem r22:bG (env T9) (bR (env T9) 100000) 36 a22=some y22:=by kernel_rfl
theorem c22:cW Tryz.prog 36 a22 y22:=jS (fits k9) r22
theorem alive:cW Tryz.prog 36 [] (.v (.bool true)):=c22
end Go.Proofs.YtmkmimgokagimaaGreat.ldAlive
namespace Go.Proofs.YtmkmimgokagimaaGreat.ledgerTells
open Go.Ab Go.ChangeShapes Go.WideShapes Go.RowKit
theorem j0:(Rows.ledgerTellsRow.wf (OpenSpec.ofChange Rows.ledgerTellsSpec))=true:=by kernel_rfl
theorem j1:(laidOutB Tryz.pinned.checked.prog)=true:=by kernel_rfl
theorem j2:(mapsRowed Tryz.pinned.checked.prog)=true:=by kernel_rfl
theorem j3:(Tryz.f4.params.all (Tryz.pinned.checked.prog.readableRec ·))=true:=by kernel_rfl
theorem j4:(namedTie Tryz.pinned.checked.prog Rows.ledgerTellsRow.named (Rows.ledgerTellsSpec).vars)=true:=by kernel_rfl
theorem j5:((Rows.ledgerTellsRow.stops == []))=true:=by kernel_rfl
theorem j6:((Tryz.pinned.checked.prog.stops == []))=true:=by kernel_rfl
theorem j7:((Rows.ledgerTellsRow.knobs == []))=true:=by kernel_rfl
theorem j8:((Tryz.pinned.checked.prog.stopKnobs == []))=true:=by kernel_rfl
theorem j9:((Rows.ledgerTellsRow.inPlace == Tryz.pinned.checked.prog.inPlace 4))=true:=by kernel_rfl
theorem j10:((Rows.ledgerTellsRow.unfollowed == Tryz.pinned.checked.prog.unfollowed 4))=true:=by kernel_rfl
theorem j11:((Rows.ledgerTellsRow.recurses == Tryz.pinned.checked.prog.recurses 4))=true:=by kernel_rfl
theorem j12:((Rows.ledgerTellsRow.named == Tryz.pinned.checked.prog.varsNamed 4))=true:=by kernel_rfl
theorem j13:((Rows.ledgerTellsRow.maps == (Tryz.f4.params.toList++(Rows.ledgerTellsSpec).plain.varTypes Tryz.pinned.checked.prog).any (Tryz.pinned.checked.prog.mapsRec ·)))=true:=by kernel_rfl
theorem j14:((Rows.ledgerTellsRow.ifaces == (Tryz.f4.params.toList++(Rows.ledgerTellsSpec).plain.varTypes Tryz.pinned.checked.prog).any (Tryz.pinned.checked.prog.ifacesRec ·)))=true:=by kernel_rfl
theorem j15:((Rows.ledgerTellsRow.mapsOut == Tryz.pinned.checked.prog.mapsAmong Tryz.f4.resultTypes.toList))=true:=by kernel_rfl
theorem j16:((Rows.ledgerTellsRow.loops == (Tryz.f4.params.toList++(Rows.ledgerTellsSpec).plain.varTypes Tryz.pinned.checked.prog).any (Tryz.pinned.checked.prog.loopsFrom ·)))=true:=by kernel_rfl
theorem j17:((Rows.ledgerTellsRow.wideKeys == (Tryz.f4.params.toList++(Rows.ledgerTellsSpec).plain.varTypes Tryz.pinned.checked.prog++Tryz.f4.resultTypes.toList).any (Tryz.pinned.checked.prog.wideKeysFrom ·)))=true:=by kernel_rfl
theorem j18:((Rows.ledgerTellsSpec).vars.all (Tryz.pinned.checked.prog.varReadable ·))=true:=by kernel_rfl
theorem j19:(Tryz.f4.resultTypes.all (λt=>Tryz.pinned.checked.prog.readableRec t&&decide (t<Tryz.pinned.checked.prog.types.size)))=true:=by kernel_rfl
theorem j20:((Rows.ledgerTellsRow.ifacesOut == Tryz.f4.resultTypes.toList.any (Tryz.pinned.checked.prog.ifacesRec ·)))=true:=by kernel_rfl
theorem j21:((Rows.ledgerTellsRow.loopsOut == Tryz.f4.resultTypes.toList.any (Tryz.pinned.checked.prog.loopsFrom ·)))=true:=by kernel_rfl
theorem j22:((Rows.ledgerTellsRow.plainKeys == Tryz.pinned.checked.prog.plainKeys))=true:=by kernel_rfl
theorem j23:(Rows.ledgerTellsRow.shortTexts.isNone)=true:=by kernel_rfl
theorem j24:(Tryz.pinned.checked.prog.stopsHeard)=true:=by kernel_rfl
theorem j25:(Tryz.pinned.checked.prog.mayEnter)=true:=by kernel_rfl
theorem j26:((Rows.ledgerTellsRow.lifted == Tryz.pinned.checked.prog.liftsFinal))=true:=by kernel_rfl
theorem j27:((Tryz.pinned.checked.prog.make == some Rows.ledgerTellsRow.make))=true:=by kernel_rfl
theorem j28:((Rows.ledgerTellsRow.kinds == (if Rows.ledgerTellsRow.domain.isEmpty then [] else Tryz.f4.params.toList.map λt=>match Tryz.pinned.checked.prog.underlying t with | some (.int k)=>some k | _=>none)))=true:=by kernel_rfl
theorem j29:((Rows.ledgerTellsRow.pinned == Rows.ledgerTellsRow.pinnedBy))=true:=by kernel_rfl
theorem j30:((Rows.ledgerTellsRow.veiled == (Tryz.f4.params.toList++(Rows.ledgerTellsSpec).plain.varTypes Tryz.pinned.checked.prog++Tryz.f4.resultTypes.toList).any (Tryz.pinned.checked.prog.veiledRec ·)))=true:=by kernel_rfl
theorem j31:(Rows.ledgerTellsRow.veiledFits Tryz.pinned.checked.prog Tryz.f4.params.toList (Tryz.f4.params.toList++(Rows.ledgerTellsSpec).plain.varTypes Tryz.pinned.checked.prog++Tryz.f4.resultTypes.toList))=true:=by kernel_rfl
theorem Z5:joinedFacts Tryz.pinned.checked.prog 4 Tryz.f4 Rows.ledgerTellsSpec Rows.ledgerTellsRow=true:=by
 unfold joinedFacts
 simp only[bh]
 exact⟨⟨⟨⟨⟨⟨⟨⟨⟨⟨⟨⟨⟨⟨⟨⟨⟨⟨⟨⟨⟨⟨⟨⟨⟨⟨⟨⟨⟨⟨⟨j0,j1⟩,j2⟩,j3⟩,j4⟩,j5⟩,j6⟩,j7⟩,j8⟩,j9⟩,j10⟩,j11⟩,j12⟩,j13⟩,j14⟩,j15⟩,j16⟩,j17⟩,j18⟩,j19⟩,j20⟩,j21⟩,j22⟩,j23⟩,j24⟩,j25⟩,j26⟩,j27⟩,j28⟩,j29⟩,j30⟩,j31⟩
end Go.Proofs.YtmkmimgokagimaaGreat.ledgerTells
