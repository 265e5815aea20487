/- Part 4 of a proof: what the last part needs. No condition. -/
import Derived.Test.YtnhlcljjjbjfeaaGreatZc
import Derived.Test.YtnhlcljjjbjfeaaGreatProg
import Derived.KernelRfl
set_option linter.all false
set_option linter.unusedSectionVars false
set_option linter.unusedVariables false
set_option linter.unusedSimpArgs false
namespace Go.TX.F
open Go Go.AE Go.TX
set_option maxRecDepth 100000
@[reducible] def Al : Sig := ⟨[.c (.rows true .u8)], [], [.c (.pb 0 2 0)], [.box (.agg [.rows true .u8, .int .i64])]⟩
@[reducible] def dO : Sig := ⟨[.c (.pb 0 2 0), .c (.int .i64)], [.box (.agg [.rows true .u8, .int .i64])], [.c (.int .i64)], [.box (.agg [.rows true .u8, .int .i64])]⟩
@[reducible] def eH : Sig := ⟨[.c (.int .i64), .c (.int .i64), .c (.int .i64)], [], [.c .bool], []⟩
@[reducible] def Am : Sig := ⟨[.c (.pb 0 2 0), .c (.int .i64)], [.box (.agg [.rows true .u8, .int .i64])], [.c .bool], [.box (.agg [.rows true .u8, .int .i64])]⟩
@[reducible] def Ao : Sig := ⟨[.c (.int .i64)], [], [.c (.int .i64)], []⟩
@[reducible] def lK : Sig := ⟨[.c (.int .i64)], [], [.c .bool], []⟩
@[reducible] def Ap : Sig := ⟨[.c (.int .i64)], [], [.c .bool], []⟩
@[reducible] def sj : Sig := ⟨[.c (.rows false .iop), .c (.int .i64), .c (.int .i64)], [], [.c .bool], []⟩
@[reducible] def Aq : Sig := ⟨[.c (.rows false .iop), .c (.int .i64), .c (.int .i64)], [], [.c .bool], []⟩
@[reducible] def Ar : Sig := ⟨[.sv false .blk], [], [.c .bool], []⟩
@[reducible] def fG : Sig := ⟨[.sv false .blk], [], [.c .bool], []⟩
@[reducible] def Au : Sig := ⟨[.c (.int .i64), .c (.int .i64), .c (.int .i64)], [], [.c (.int .i64)], []⟩
@[reducible] def lM : Sig := ⟨[.sv false .blk], [], [.agg [.int .i64, .int .i64, .own 0, .int .i64, .int .i64, .int .i64, .int .i64]], [.rows true .iop]⟩
@[reducible] def su : Sig := ⟨[.sv false .iop, .c (.rows false .i64)], [], [.sv true .iop], []⟩
@[reducible] def lN : Sig := ⟨[.sv false .blk], [], [.agg [.int .i64, .int .i64, .own 0, .int .i64, .int .i64, .int .i64, .int .i64]], [.rows true .iop]⟩
@[reducible] def sw : Sig := ⟨[.c (.rows false .iop), .c (.int .i64)], [], [.c (.int .i64), .c .bool], []⟩
@[reducible] def Av : Sig := ⟨[.sv false .blk, .c (.int .i64)], [], [.agg [.int .i64, .int .i64, .rows false .iop, .int .i64, .int .i64, .int .i64, .int .i64]], []⟩
@[reducible] def Aw : Sig := ⟨[.sv false .blk], [], [.sv false .blk], []⟩
@[reducible] def sD : Sig := ⟨[.sv false .blk], [], [.sv false .blk], []⟩
@[reducible] def Ay : Sig := ⟨[.c (.rows false .iop), .c (.int .i64)], [], [.c .bool], []⟩
@[reducible] def sF : Sig := ⟨[.sv false .blk, .c (.rows false .bool)], [], [.agg [.int .i64, .int .i64, .own 0, .int .i64, .int .i64, .int .i64, .int .i64]], [.rows true .iop]⟩
@[reducible] def Az : Sig := ⟨[.sv false .blk], [], [.agg [.int .i64, .int .i64, .own 0, .int .i64, .int .i64, .int .i64, .int .i64]], [.rows true .iop]⟩
@[reducible] def AA : Sig := ⟨[.sv false .blk], [], [.c (.own 0)], [.rows true .bool]⟩
@[reducible] def AB : Sig := ⟨[.sv false .blk], [], [.agg [.int .i64, .int .i64, .own 0, .int .i64, .int .i64, .int .i64, .int .i64]], [.rows true .iop]⟩
@[reducible] def AJ : Sig := ⟨[.sv false .blk], [], [.agg [.int .i64, .int .i64, .own 0, .int .i64, .int .i64, .int .i64, .int .i64]], [.rows true .iop]⟩
@[reducible] def AL : Sig := ⟨[.c (.pb 0 2 0)], [.box (.agg [.rows true .u8, .int .i64])], [.agg [.int .i64, .int .i64, .int .i64, .int .i64]], [.box (.agg [.rows true .u8, .int .i64])]⟩
@[reducible] def AO : Sig := ⟨[.sv false .ins], [], [.c .bool], []⟩
@[reducible] def sG : Sig := ⟨[.sv false .ins], [], [.c .bool], []⟩
@[reducible] def sH : Sig := ⟨[.c (.int .i64)], [], [.c .bool], []⟩
@[reducible] def sI : Sig := ⟨[.sv false .ins], [], [.c .bool], []⟩
@[reducible] def AP : Sig := ⟨[.c (.pb 0 2 0)], [.box (.agg [.rows true .u8, .int .i64])], [.agg [.int .i64, .int .i64, .int .i64, .int .i64]], [.box (.agg [.rows true .u8, .int .i64])]⟩
@[reducible] def AQ : Sig := ⟨[.c (.pb 0 2 0)], [.box (.agg [.rows true .u8, .int .i64])], [.c (.own 1)], [.box (.agg [.rows true .u8, .int .i64]), .rows true .ins]⟩
@[reducible] def AU : Sig := ⟨[.c (.int .i64), .c (.rows false .ins)], [], [.c .bool], []⟩
@[reducible] def iA : Sig := ⟨[.agg [.int .i64, .int .i64, .own 0, .int .i64, .int .i64, .int .i64, .int .i64], .sv false .iop], [.rows true .iop], [.agg [.int .i64, .int .i64, .own 1, .int .i64, .int .i64, .int .i64, .int .i64], .c (.int .i64)], [.gone, .rows true .iop]⟩
@[reducible] def sJ : Sig := ⟨[.agg [.int .i64, .int .i64, .own 0, .int .i64, .int .i64, .int .i64, .int .i64], .c (.int .i64), .c (.int .i64)], [.rows true .iop], [.agg [.int .i64, .int .i64, .own 1, .int .i64, .int .i64, .int .i64, .int .i64]], [.gone, .rows true .iop]⟩
@[reducible] def je : Sig := ⟨[.agg [.int .i64, .int .i64, .own 0, .int .i64, .int .i64, .int .i64, .int .i64], .c (.int .i64)], [.rows true .iop], [.agg [.int .i64, .int .i64, .own 1, .int .i64, .int .i64, .int .i64, .int .i64], .c (.int .i64)], [.gone, .rows true .iop]⟩
@[reducible] def sK : Sig := ⟨[.agg [.int .i64, .int .i64, .own 0, .int .i64, .int .i64, .int .i64, .int .i64], .c (.int .i64), .c (.int .i64), .sv false .iop], [.rows true .iop], [.agg [.int .i64, .int .i64, .own 1, .int .i64, .int .i64, .int .i64, .int .i64], .c (.int .i64)], [.gone, .rows true .iop]⟩
@[reducible] def AV : Sig := ⟨[.c (.int .i64)], [], [.c (.int .i64)], []⟩
@[reducible] def AX : Sig := ⟨[.agg [.int .i64, .int .i64, .own 0, .int .i64, .int .i64, .int .i64, .int .i64], .sv false .ins, .c (.int .i64)], [.rows true .iop], [.agg [.int .i64, .int .i64, .own 1, .int .i64, .int .i64, .int .i64, .int .i64]], [.gone, .rows true .iop]⟩
@[reducible] def AY : Sig := ⟨[.agg [.int .i64, .int .i64, .own 0, .int .i64, .int .i64, .int .i64, .int .i64], .sv false .ins], [.rows true .iop], [.agg [.int .i64, .int .i64, .own 1, .int .i64, .int .i64, .int .i64, .int .i64]], [.gone, .rows true .iop]⟩
@[reducible] def AZ : Sig := ⟨[.agg [.int .i64, .int .i64, .own 0, .int .i64, .int .i64, .int .i64, .int .i64], .sv false .ins, .c (.int .i64)], [.rows true .iop], [.agg [.int .i64, .int .i64, .own 1, .int .i64, .int .i64, .int .i64, .int .i64]], [.gone, .rows true .iop]⟩
@[reducible] def A8 : Sig := ⟨[.c (.int .i64), .c (.rows false .ins)], [], [.agg [.int .i64, .int .i64, .own 0, .int .i64, .int .i64, .int .i64, .int .i64]], [.rows true .iop]⟩
@[reducible] def A9 : Sig := ⟨[.c (.pb 0 2 0)], [.box (.agg [.rows true .u8, .int .i64])], [.agg [.int .i64, .int .i64, .own 1, .int .i64, .int .i64, .int .i64, .int .i64]], [.box (.agg [.rows true .u8, .int .i64]), .rows true .iop]⟩
@[reducible] def Kw : Sig := ⟨[.c (.int .i64)], [], [.c .bool], []⟩
@[reducible] def CO : Sig := ⟨[.c (.int .i64), .c (.int .i64)], [], [.c (.int .i64)], []⟩
@[reducible] def Ky : Sig := ⟨[.c (.rows false .i64)], [], [.c (.int .i64)], []⟩
@[reducible] def Iu : Sig := ⟨[.c (.rows false .i64), .c (.rows false .i64)], [], [.c (.int .i64)], []⟩
@[reducible] def mW : Sig := ⟨[.c (.rows false .i64), .c (.rows false .i64)], [], [.c (.int .i64)], []⟩
@[reducible] def bZ : Sig := ⟨[.c (.int .i64), .c (.int .i64), .c (.int .i64)], [], [.c .bool], []⟩
@[reducible] def CP : Sig := ⟨[.c (.int .i64), .c (.int .i64)], [], [.c .bool], []⟩
@[reducible] def Ba : Sig := ⟨[.c (.rows false .i64)], [], [.c .bool], []⟩
@[reducible] def Iw : Sig := ⟨[.c (.int .i64), .c (.pb 0 1 0)], [.box (.c (.int .i64))], [.c .bool], [.box (.c (.int .i64))]⟩
@[reducible] def Bb : Sig := ⟨[.c (.rows false .i64), .c (.fn 187 [(0, 1)])], [.box (.c (.int .i64))], [.c (.int .i64)], [.box (.c (.int .i64))]⟩
@[reducible] def Bc : Sig := ⟨[.c (.rows false .i64), .c (.fn 187 [(0, 1)])], [.box (.c (.int .i64))], [.c .bool], [.box (.c (.int .i64))]⟩
@[reducible] def yZ : Sig := ⟨[.sv false .poly, .c (.int .i64)], [], [.c .bool], []⟩
@[reducible] def Iy : Sig := ⟨[.sv false .mono], [], [.c .bool], []⟩
@[reducible] def Bd : Sig := ⟨[.c (.rows false .mono), .c (.fn 144 [])], [], [.c (.int .i64)], []⟩
@[reducible] def Bf : Sig := ⟨[.c (.rows false .mono), .c (.fn 144 [])], [], [.c .bool], []⟩
@[reducible] def iD : Sig := ⟨[.sv false .poly], [], [.c .bool], []⟩
@[reducible] def y7 : Sig := ⟨[.sv false .poly], [], [.c (.int .i64), .c .bool], []⟩
@[reducible] def tK : Sig := ⟨[.sv false .poly, .sv false .poly], [], [.c (.int .i64)], []⟩
@[reducible] def y8 : Sig := ⟨[.c (.rows false .i64)], [], [.c (.own 0)], [.rows true .i64]⟩
@[reducible] def tL : Sig := ⟨[.sv false .poly], [], [.agg [.own 0]], [.rows true .mono]⟩
@[reducible] def Iz : Sig := ⟨[.c (.rows false .poly)], [], [.c (.own 0)], [.rows true .poly]⟩
@[reducible] def IB : Sig := ⟨[.sv false .sym], [], [.agg [.own 0, .own 1, .int .i64, .own 2, .own 3, .int .i64]], [.rows true .ev, .rows true .poly, .rows true .mono, .rows true .mono]⟩
@[reducible] def iR : Sig := ⟨[.sv false .poly, .sv false .poly], [], [.c .bool], []⟩
@[reducible] def iT : Sig := ⟨[.c (.int .i64)], [], [.c .bool], []⟩
@[reducible] def y9 : Sig := ⟨[.c (.int .i64), .c (.int .i64), .c (.int .i64)], [], [.c .bool], []⟩
@[reducible] def IC : Sig := ⟨[.sv false .sym, .c (.int .i64)], [], [.sv true .sym], []⟩
@[reducible] def IE : Sig := ⟨[], [], [.c .bool], []⟩
@[reducible] def Bg : Sig := ⟨[.c (.pb 0 2 0), .sv false .blk], [.box (.agg [.rows true .u8, .int .i64])], [.agg [.int .i64, .int .i64, .own 1, .int .i64, .int .i64, .int .i64, .int .i64]], [.box (.agg [.rows true .u8, .int .i64]), .rows true .iop]⟩
@[reducible] def Bh : Sig := ⟨[.c (.pb 0 2 0), .c (.int .i64)], [.box (.agg [.rows true .u8, .int .i64])], [.sv true .blk], [.box (.agg [.rows true .u8, .int .i64])]⟩
@[reducible] def za : Sig := ⟨[.c (.int .i64)], [], [.c .bool], []⟩
@[reducible] def ze : Sig := ⟨[.c (.int .i64)], [], [.c .bool], []⟩
@[reducible] def zf : Sig := ⟨[.sv false .atom, .c (.int .i64)], [], [.c .bool], []⟩
@[reducible] def IG : Sig := ⟨[.sv false .atom, .sv false .atom], [], [.c .bool], []⟩
@[reducible] def II : Sig := ⟨[.sv false .atom, .c (.pb 0 4 0)], [.box (.sv false .atom)], [.c .bool], [.box (.sv false .atom)]⟩
@[reducible] def Bj : Sig := ⟨[.c (.rows false .atom), .c (.fn 167 [(0, 4)])], [.box (.sv false .atom)], [.c (.int .i64)], [.box (.sv false .atom)]⟩
@[reducible] def zh : Sig := ⟨[.sv false .tab, .sv false .atom], [], [.c (.int .i64)], []⟩
@[reducible] def IJ : Sig := ⟨[.sv false .tab], [], [.c .bool], []⟩
@[reducible] def zi : Sig := ⟨[.sv false .iop], [], [.c .bool, .c .bool, .c .bool, .c .bool], []⟩
@[reducible] def IK : Sig := ⟨[.sv false .iop], [], [.c .bool], []⟩
@[reducible] def zk : Sig := ⟨[.sv false .blk, .c (.int .i64), .c (.int .i64)], [], [.c .bool], []⟩
@[reducible] def IL : Sig := ⟨[.sv false .blk, .c (.int .i64)], [], [.c .bool], []⟩
@[reducible] def zl : Sig := ⟨[.sv false .blk], [], [.c .bool, .c .bool, .c .bool], []⟩
@[reducible] def IQ : Sig := ⟨[.sv false .blk], [], [.c .bool], []⟩
@[reducible] def tN : Sig := ⟨[.sv false .blk], [], [.c .bool], []⟩
@[reducible] def IU : Sig := ⟨[.c (.rows true .atom)], [], [.c (.clip true .atom)], []⟩
@[reducible] def zm : Sig := ⟨[.sv true .tab, .sv true .atom], [], [.sv true .tab, .c (.int .i64)], []⟩
@[reducible] def zn : Sig := ⟨[.c (.int .i64)], [], [.agg [.own 0]], [.rows true .mono]⟩
@[reducible] def zo : Sig := ⟨[.c (.pb 0 2 0), .c (.int .i64), .c (.int .i64)], [.box (.agg [.rows true .atom, .bool])], [.sv true .poly], [.box (.agg [.rows true .atom, .bool])]⟩
@[reducible] def zq : Sig := ⟨[.c (.pb 0 2 0)], [.box (.agg [.rows true .atom, .bool])], [.c (.own 1)], [.box (.agg [.rows true .atom, .bool]), .rows true .poly]⟩
@[reducible] def IV : Sig := ⟨[.sv false .iop], [], [.c .bool], []⟩
@[reducible] def IW : Sig := ⟨[.c (.own 0)], [.rows true .poly], [.c (.own 1)], [.rows true .poly, .rows true .poly]⟩
@[reducible] def tO : Sig := ⟨[.c (.int .i64)], [], [.agg [.own 0]], [.rows true .mono]⟩
@[reducible] def tQ : Sig := ⟨[.c (.int .i64)], [], [.c (.int .i64)], []⟩
@[reducible] def zu : Sig := ⟨[.c (.int .i64), .c (.int .i64), .c (.int .i64)], [], [.c (.int .i64)], []⟩
@[reducible] def zw : Sig := ⟨[.sv false .mono, .sv false .mono], [], [.c (.int .i64)], []⟩
@[reducible] def Bn : Sig := ⟨[.c (.own 0), .c (.int .i64), .c (.int .i64), .c (.fn 224 [])], [.rows false .mono], [], [.rows false .mono]⟩
@[reducible] def Bo : Sig := ⟨[.c (.own 0), .c (.int .i64), .c (.int .i64), .c (.int .i64), .c (.fn 224 [])], [.rows false .mono], [], [.rows false .mono]⟩
@[reducible] def Bq : Sig := ⟨[.c (.own 0), .c (.int .i64), .c (.int .i64), .c (.int .i64), .c (.fn 224 [])], [.rows false .mono], [], [.rows false .mono]⟩
@[reducible] def mX : Sig := ⟨[.c (.own 0), .c (.int .i64), .c (.int .i64), .c (.int .i64), .c (.fn 224 [])], [.rows false .mono], [], [.rows false .mono]⟩
@[reducible] def Br : Sig := ⟨[.c (.own 0), .c (.int .i64), .c (.fn 224 [])], [.rows false .mono], [], [.rows false .mono]⟩
@[reducible] def Bu : Sig := ⟨[.c (.own 0), .c (.fn 224 [])], [.rows false .mono], [], [.rows false .mono]⟩
@[reducible] def zy : Sig := ⟨[.c (.own 0)], [.rows false .mono], [.agg [.own 1], .c .bool], [.rows false .mono, .rows true .mono]⟩
@[reducible] def Bv : Sig := ⟨[.c (.nil), .c (.int .i64)], [], [.c (.own 0)], [.rows true .mono]⟩
@[reducible] def IX : Sig := ⟨[.c (.rows false .poly)], [], [.c (.own 0)], [.rows false .mono]⟩
@[reducible] def IY : Sig := ⟨[.sv false .poly, .sv false .poly], [], [.agg [.own 0], .c .bool], [.rows true .mono]⟩
@[reducible] def Bw : Sig := ⟨[.c (.nil), .c (.int .i64)], [], [.c (.own 0)], [.rows true .i64]⟩
@[reducible] def IZ : Sig := ⟨[.c (.rows false .ints)], [], [.c (.own 0)], [.rows true .i64]⟩
@[reducible] def Bz : Sig := ⟨[.c (.own 0), .c (.int .i64), .c (.int .i64)], [.rows true .i64], [], [.rows true .i64]⟩
@[reducible] def EB : Sig := ⟨[.c (.own 0), .c (.int .i64), .c (.int .i64)], [.rows true .i64], [], [.rows true .i64]⟩
@[reducible] def EC : Sig := ⟨[.c (.own 0), .c (.int .i64), .c (.int .i64)], [.rows true .i64], [], [.rows true .i64]⟩
@[reducible] def ED : Sig := ⟨[.c (.own 0), .c (.int .i64), .c (.int .i64)], [.rows true .i64], [.c (.int .i64), .c (.int .i64)], [.rows true .i64]⟩
@[reducible] def EF : Sig := ⟨[.c (.own 0), .c (.int .i64), .c (.int .i64)], [.rows true .i64], [], [.rows true .i64]⟩
@[reducible] def EG : Sig := ⟨[.c (.own 0), .c (.int .i64), .c (.int .i64)], [.rows true .i64], [.c .bool], [.rows true .i64]⟩
@[reducible] def EH : Sig := ⟨[.c (.own 0), .c (.int .i64), .c (.int .i64), .c (.int .i64)], [.rows true .i64], [.c (.int .i64)], [.rows true .i64]⟩
@[reducible] def EI : Sig := ⟨[.c (.own 0), .c (.int .i64), .c (.int .i64), .c (.int .i64)], [.rows true .i64], [.c (.int .i64), .c .bool], [.rows true .i64]⟩
@[reducible] def mY : Sig := ⟨[.c (.own 0), .c (.int .i64), .c (.int .i64), .c (.int .i64)], [.rows true .i64], [], [.rows true .i64]⟩
@[reducible] def SL : Sig := ⟨[.c (.int .u64)], [], [.c (.int .i64)], []⟩
@[reducible] def BA : Sig := ⟨[.c (.own 0)], [.rows true .i64], [], [.rows true .i64]⟩
@[reducible] def zB : Sig := ⟨[.sv false .poly, .sv false .poly], [], [.agg [.own 0], .c .bool], [.rows true .mono]⟩
@[reducible] def I4 : Sig := ⟨[.sv false .poly, .c (.int .i64)], [], [.agg [.own 0]], [.rows true .mono]⟩
@[reducible] def I5 : Sig := ⟨[.c (.int .i64), .sv true .poly, .sv true .poly], [], [.sv true .poly, .c .bool], []⟩
@[reducible] def I6 : Sig := ⟨[.sv true .tab, .c (.int .i64), .sv true .poly, .sv true .poly], [], [.sv true .tab, .sv true .poly, .c .bool], []⟩
@[reducible] def zC : Sig := ⟨[.sv false .tab], [], [.agg [.own 0]], [.rows true .atom]⟩
@[reducible] def I7 : Sig := ⟨[.sv true .tab, .sv false .blk], [], [.sv true .tab, .sv true .sym], []⟩
@[reducible] def BD : Sig := ⟨[.c (.rows false .iop), .c (.rows false .iop)], [], [.c .bool], []⟩
@[reducible] def I8 : Sig := ⟨[.sv false .blk, .sv false .blk], [], [.c .bool], []⟩
@[reducible] def I9 : Sig := ⟨[], [], [.sv true .tab, .c (.rows true .poly)], []⟩
@[reducible] def Ja : Sig := ⟨[.sv false .poly, .sv false .poly], [], [.c .bool], []⟩
@[reducible] def BF : Sig := ⟨[.c (.rows false .poly), .c (.rows false .poly), .c (.fn 191 [])], [], [.c .bool], []⟩
@[reducible] def zD : Sig := ⟨[.c (.rows false .poly), .c (.rows false .poly)], [], [.c .bool], []⟩
@[reducible] def Jb : Sig := ⟨[.sv false .ev, .sv false .ev], [], [.c .bool], []⟩
@[reducible] def BG : Sig := ⟨[.c (.rows false .ev), .c (.rows false .ev), .c (.fn 154 [])], [], [.c .bool], []⟩
@[reducible] def Jc : Sig := ⟨[.sv false .sym, .sv false .sym], [], [.c .bool], []⟩
@[reducible] def Vu : Sig := ⟨[.sv false .blk, .sv false .blk], [], [.c .bool], []⟩
@[reducible] def Jd : Sig := ⟨[.sv false .blk, .sv false .blk], [], [.c .bool], []⟩
@[reducible] def BH : Sig := ⟨[.c (.rows true .u8)], [], [.sv true .blk], []⟩
@[reducible] def Vv : Sig := ⟨[.sv false .blk], [], [.agg [.int .i64, .int .i64, .own 0, .int .i64, .int .i64, .int .i64, .int .i64]], [.rows true .iop]⟩
@[reducible] def Je : Sig := ⟨[.c (.int .i64), .c (.pb 0 7 0)], [.box (.agg [.int .i64, .int .i64, .own 1, .int .i64, .int .i64, .int .i64, .int .i64]), .rows true .iop], [.c .bool], [.box (.agg [.int .i64, .int .i64, .own 1, .int .i64, .int .i64, .int .i64, .int .i64]), .rows true .iop]⟩
@[reducible] def Jf : Sig := ⟨[.sv false .blk], [], [.sv false .blk], []⟩
@[reducible] def WZ : Sig := ⟨[.c (.rows true .u8)], [], [.c .bool], []⟩
def EJ (A:Alg) (x:Tup A.ah [.l .u8]):Ot A Al:=
 A.bind [.l .u8] (A.cond (A.cmp .gtr (A.len .u8 x.1) (A.lit 2000)) (A.chk (A.cmp .leq (A.lit 0) (A.lit 0))<|
 A.chk (A.cmp .leq (A.lit 0) (A.lit 2000))<|
 A.chk (A.cmp .leq (A.lit 2000) (A.len .u8 x.1))<|
 A.l1 (.l .u8) (A.sub .u8 x.1 (A.lit 0) (A.lit 2000)) fun x0=>
 A.ret _ (x0.1,()))<|
 A.ret _ (x.1,())) fun x0=>
 A.ret _ (x0.1,A.lit 0,())
def EK (A:Alg) (x:Tup A.ah [.i,.l .u8,.i]):Ot A dO:=
 A.l1 .i (A.lit 0) fun x0=>
 A.l1 .i (A.arith .add .i64 x.2.2.1 (A.lit 1)) fun x1=>
 A.cond (A.au (A.cmp .lss x.1 (A.lit 1)) (A.bl true) (A.cmp .eql (A.len .u8 x.2.1) (A.lit 0))) (A.l1 .i (A.lit 0) fun x2=>
 A.ret _ (x2.1,x.2.1,x1.1,()))<|
 A.l1 .i (A.arith .sub .i64 x1.1 (A.lit 1)) fun x2=>
 A.cond (A.cmp .lss x2.1 (A.len .u8 x.2.1)) (A.bd .u8 x.2.1 x2.1<|
 A.chk (A.cmp .neq x.1 (A.lit 0))<|
 A.l1 .i (A.arith .rem .i64 (A.conv .i64 (A.fI .u8 0 (A.get .u8 x.2.1 x2.1))) x.1) fun x3=>
 A.ret _ (x3.1,x.2.1,x1.1,()))<|
 A.chk (A.cmp .neq (A.len .u8 x.2.1) (A.lit 0))<|
 A.bd .u8 x.2.1 (A.arith .rem .i64 x2.1 (A.len .u8 x.2.1))<|
 A.chk (A.cmp .neq (A.len .u8 x.2.1) (A.lit 0))<|
 A.bd .u8 x.2.1 (A.arith .rem .i64 (A.arith .add .i64 (A.arith .mul .i64 x2.1 (A.lit 7)) (A.lit 3)) (A.len .u8 x.2.1))<|
 A.chk (A.cmp .neq (A.len .u8 x.2.1) (A.lit 0))<|
 A.l1 .i (A.arith .add .i64 (A.arith .add .i64 (A.arith .add .i64 (A.arith .mul .i64 (A.conv .i64 (A.fI .u8 0 (A.get .u8 x.2.1 (A.arith .rem .i64 x2.1 (A.len .u8 x.2.1))))) (A.lit 131)) (A.arith .mul .i64 (A.conv .i64 (A.fI .u8 0 (A.get .u8 x.2.1 (A.arith .rem .i64 (A.arith .add .i64 (A.arith .mul .i64 x2.1 (A.lit 7)) (A.lit 3)) (A.len .u8 x.2.1))))) (A.lit 1117))) (A.arith .mul .i64 x2.1 (A.lit 29))) (A.arith .mul .i64 (A.arith .quo .i64 x2.1 (A.len .u8 x.2.1)) (A.lit 53))) fun x3=>
 A.chk (A.cmp .neq (A.lit 64) (A.lit 0))<|
 A.l1 .i (A.arith .xor .i64 x3.1 (A.arith .quo .i64 x3.1 (A.lit 64))) fun x4=>
 A.chk (A.cmp .neq x.1 (A.lit 0))<|
 A.l1 .i (A.arith .rem .i64 x4.1 x.1) fun x5=>
 A.ret _ (x5.1,x.2.1,x1.1,())
def EL (A:Alg) (x:Tup A.ah [.i,.i,.i]):Ot A eH:=
 A.l1 .b (A.bl false) fun x0=>
 A.rb (A.au (A.cmp .geq x.1 x.2.1) (A.cmp .leq x.1 x.2.2.1) (A.bl false))
def EM (A:Alg) (aY:Pt A dO) (aZ:Ft A dO) (x:Tup A.ah [.i,.l .u8,.i]):Ot A Am:=
 A.l1 .b (A.bl false) fun x0=>
 A.cl aY aZ (x.1,x.2.1,x.2.2.1,()) fun x1=>
 A.l1 .b (A.cmp .eql x1.1 (A.arith .sub .i64 x.1 (A.lit 1))) fun x2=>
 A.ret _ (x2.1,x1.2.1,x1.2.2.1,())
def EN (A:Alg) (x:Tup A.ah [.i]):Ot A Ao:=
 A.l1 .i (A.lit 0) fun x0=>
 A.chk (A.cmp .neq (A.lit 65536) (A.lit 0))<|
 A.l1 .i (A.arith .rem .i64 x.1 (A.lit 65536)) fun x1=>
 A.bind [.i] (A.cond (A.cmp .lss x1.1 (A.lit 0)) (A.l1 .i (A.arith .add .i64 x1.1 (A.lit 65536)) fun x2=>
 A.ret _ (x2.1,()))<|
 A.ret _ (x1.1,())) fun x2=>
 A.l1 .i x2.1 fun x3=>
 A.ret _ (x3.1,())
def EO (A:Alg) (x:Tup A.ah [.i]):Ot A lK:=
 A.l1 .b (A.bl false) fun x0=>
 A.rb (A.au (A.cmp .geq x.1 (A.lit 0)) (A.cmp .lss x.1 (A.lit 65536)) (A.bl false))
def EP (A:Alg) (eU:Pt A eH) (eX:Ft A eH) (x:Tup A.ah [.i]):Ot A Ap:=
 A.l1 .b (A.bl false) fun x0=>
 A.cl eU eX (x.1,A.lit 1,A.lit 4,()) fun x1=>
 A.rb (A.au x1.1 (A.bl true) (A.cmp .eql x.1 (A.lit 6)))
def ER (A:Alg) (agd:Pt A Ap) (agf:Ft A Ap) (x:Tup A.ah [.l .iop,.i,.i]):Ot A sj:=
 A.l1 .b (A.bl false) fun x0=>
 A.chk (A.orB (A.aB (A.au (A.cmp .geq x.2.1 (A.lit 0)) (A.cmp .lss x.2.1 x.2.2.1) (A.bl false))) (A.cmp .leq (A.lit 0) x.2.1))<|
 A.chk (A.orB (A.aB (A.au (A.cmp .geq x.2.1 (A.lit 0)) (A.cmp .lss x.2.1 x.2.2.1) (A.bl false))) (A.cmp .lss x.2.1 (A.len .iop x.1)))<|
 A.cg (A.au (A.cmp .geq x.2.1 (A.lit 0)) (A.cmp .lss x.2.1 x.2.2.1) (A.bl false)) agd agf (A.fI .iop 0 (A.get .iop x.1 x.2.1),()) fun x1=>
 A.rb (A.au (A.au (A.cmp .geq x.2.1 (A.lit 0)) (A.cmp .lss x.2.1 x.2.2.1) (A.bl false)) x1.1 (A.bl false))
def ET (A:Alg) (xY:Pt A lK) (xZ:Ft A lK) (eU:Pt A eH) (eX:Ft A eH) (oC:Pt A sj) (oD:Ft A sj) (x:Tup A.ah [.l .iop,.i,.i]):Ot A Aq:=
 A.l1 .b (A.bl false) fun x0=>
 A.bd .iop x.1 x.2.1<|
 A.l1 (.x .iop) (A.get .iop x.1 x.2.1) fun x1=>
 A.l1 .b (A.cmp .eql (A.fI .iop 0 x1.1) (A.lit 1)) fun x2=>
 A.cond x2.1 (A.cg (A.au (A.cmp .eql (A.fI .iop 1 x1.1) (A.lit 0)) (A.cmp .eql (A.fI .iop 2 x1.1) (A.lit 0)) (A.bl false)) xY xZ (A.fI .iop 3 x1.1,()) fun x3=>
 A.rb (A.au (A.au (A.au (A.cmp .eql (A.fI .iop 1 x1.1) (A.lit 0)) (A.cmp .eql (A.fI .iop 2 x1.1) (A.lit 0)) (A.bl false)) x3.1 (A.bl false)) (A.cmp .eql (A.fI .iop 4 x1.1) (A.lit 0)) (A.bl false)))<|
 A.l1 .b (A.cmp .eql (A.fI .iop 0 x1.1) (A.lit 2)) fun x3=>
 A.cond x3.1 (A.cg (A.au (A.cmp .eql (A.fI .iop 1 x1.1) (A.lit 0)) (A.cmp .eql (A.fI .iop 2 x1.1) (A.lit 0)) (A.bl false)) eU eX (A.fI .iop 3 x1.1,A.lit 0,A.lit 3,()) fun x4=>
 A.rb (A.au (A.au (A.au (A.cmp .eql (A.fI .iop 1 x1.1) (A.lit 0)) (A.cmp .eql (A.fI .iop 2 x1.1) (A.lit 0)) (A.bl false)) x4.1 (A.bl false)) (A.cmp .eql (A.fI .iop 4 x1.1) (A.lit 0)) (A.bl false)))<|
 A.l1 .b (A.cmp .eql (A.fI .iop 0 x1.1) (A.lit 3)) fun x4=>
 A.cond x4.1 (A.cl oC oD (x.1,A.fI .iop 1 x1.1,x.2.1,()) fun x5=>
 A.cg x5.1 oC oD (x.1,A.fI .iop 2 x1.1,x.2.1,()) fun x6=>
 A.cg (A.au x5.1 x6.1 (A.bl false)) eU eX (A.fI .iop 3 x1.1,A.lit 1,A.lit 5,()) fun x7=>
 A.rb (A.au (A.au (A.au x5.1 x6.1 (A.bl false)) x7.1 (A.bl false)) (A.cmp .eql (A.fI .iop 4 x1.1) (A.lit 0)) (A.bl false)))<|
 A.l1 .b (A.cmp .eql (A.fI .iop 0 x1.1) (A.lit 4)) fun x5=>
 A.bind [.l .iop,.i,.i,.i,.b,.x .iop] (A.cond x5.1 (A.ret _ (x.1,x.2.1,x.2.2.1,A.fI .iop 0 x1.1,x5.1,x1.1,()))<|
 A.l1 .b (A.cmp .eql (A.fI .iop 0 x1.1) (A.lit 7)) fun x6=>
 A.ret _ (x.1,x.2.1,x.2.2.1,A.fI .iop 0 x1.1,x6.1,x1.1,())) fun x6=>
 A.cond x6.q.1 (A.cl oC oD (x6.1,A.fI .iop 1 x6.q.2.1,x6.2.1,()) fun x7=>
 A.cg (A.au (A.au x7.1 (A.cmp .eql (A.fI .iop 2 x6.q.2.1) (A.lit 0)) (A.bl false)) (A.cmp .eql (A.fI .iop 3 x6.q.2.1) (A.lit 0)) (A.bl false)) eU eX (A.fI .iop 4 x6.q.2.1,A.lit 0,A.arith .sub .i64 x6.2.2.1 (A.lit 1),()) fun x8=>
 A.rb (A.au (A.au (A.au x7.1 (A.cmp .eql (A.fI .iop 2 x6.q.2.1) (A.lit 0)) (A.bl false)) (A.cmp .eql (A.fI .iop 3 x6.q.2.1) (A.lit 0)) (A.bl false)) x8.1 (A.bl false)))<|
 A.l1 .b (A.cmp .eql x6.2.2.2.1 (A.lit 5)) fun x7=>
 A.cond x7.1 (A.cl oC oD (x6.1,A.fI .iop 1 x6.q.2.1,x6.2.1,()) fun x8=>
 A.cg x8.1 oC oD (x6.1,A.fI .iop 2 x6.q.2.1,x6.2.1,()) fun x9=>
 A.cg (A.au (A.au x8.1 x9.1 (A.bl false)) (A.cmp .eql (A.fI .iop 3 x6.q.2.1) (A.lit 0)) (A.bl false)) eU eX (A.fI .iop 4 x6.q.2.1,A.lit 0,A.arith .sub .i64 x6.2.2.1 (A.lit 1),()) fun x10=>
 A.rb (A.au (A.au (A.au x8.1 x9.1 (A.bl false)) (A.cmp .eql (A.fI .iop 3 x6.q.2.1) (A.lit 0)) (A.bl false)) x10.1 (A.bl false)))<|
 A.l1 .b (A.cmp .eql x6.2.2.2.1 (A.lit 6)) fun x8=>
 A.cond x8.1 (A.cg (A.au (A.au (A.cmp .eql (A.fI .iop 1 x6.q.2.1) (A.lit 0)) (A.cmp .eql (A.fI .iop 2 x6.q.2.1) (A.lit 0)) (A.bl false)) (A.cmp .eql (A.fI .iop 3 x6.q.2.1) (A.lit 0)) (A.bl false)) eU eX (A.fI .iop 4 x6.q.2.1,A.lit 0,A.arith .sub .i64 x6.2.2.1 (A.lit 1),()) fun x9=>
 A.rb (A.au (A.au (A.au (A.cmp .eql (A.fI .iop 1 x6.q.2.1) (A.lit 0)) (A.cmp .eql (A.fI .iop 2 x6.q.2.1) (A.lit 0)) (A.bl false)) (A.cmp .eql (A.fI .iop 3 x6.q.2.1) (A.lit 0)) (A.bl false)) x9.1 (A.bl false)))<|
 A.l1 .b (A.cmp .eql x6.2.2.2.1 (A.lit 8)) fun x9=>
 A.cond x9.1 (A.cl oC oD (x6.1,A.fI .iop 1 x6.q.2.1,x6.2.1,()) fun x10=>
 A.cg (A.au x10.1 (A.cmp .eql (A.fI .iop 2 x6.q.2.1) (A.lit 0)) (A.bl false)) eU eX (A.fI .iop 3 x6.q.2.1,A.lit 0,A.lit 3,()) fun x11=>
 A.rb (A.au (A.au (A.au x10.1 (A.cmp .eql (A.fI .iop 2 x6.q.2.1) (A.lit 0)) (A.bl false)) x11.1 (A.bl false)) (A.cmp .eql (A.fI .iop 4 x6.q.2.1) (A.lit 0)) (A.bl false)))<|
 A.rb (A.bl false)
def EU (A:Alg) (xY:Pt A lK) (xZ:Ft A lK) (oC:Pt A sj) (oD:Ft A sj) (x:Tup A.ah [.x .blk]):Ot A Ar:=
 A.l1 .b (A.bl false) fun x0=>
 A.l1 .i (A.len .iop (A.fL .blk 2 .iop x.1)) fun x1=>
 A.l1 .b (A.cmp .eql (A.fI .blk 3 x.1) (A.lit 1)) fun x2=>
 A.cond x2.1 (A.cg (A.au (A.cmp .eql (A.fI .blk 4 x.1) (A.lit 0)) (A.cmp .eql (A.fI .blk 5 x.1) (A.lit 0)) (A.bl false)) xY xZ (A.fI .blk 6 x.1,()) fun x3=>
 A.rb (A.au (A.au (A.cmp .eql (A.fI .blk 4 x.1) (A.lit 0)) (A.cmp .eql (A.fI .blk 5 x.1) (A.lit 0)) (A.bl false)) x3.1 (A.bl false)))<|
 A.l1 .b (A.cmp .eql (A.fI .blk 3 x.1) (A.lit 2)) fun x3=>
 A.cond x3.1 (A.cl oC oD (A.fL .blk 2 .iop x.1,A.fI .blk 4 x.1,x1.1,()) fun x4=>
 A.rb (A.au (A.au x4.1 (A.cmp .eql (A.fI .blk 5 x.1) (A.lit 0)) (A.bl false)) (A.cmp .eql (A.fI .blk 6 x.1) (A.lit 0)) (A.bl false)))<|
 A.l1 .b (A.cmp .eql (A.fI .blk 3 x.1) (A.lit 3)) fun x4=>
 A.bind [.i,.b,.x .blk] (A.cond x4.1 (A.ret _ (x1.1,x4.1,x.1,()))<|
 A.l1 .b (A.cmp .eql (A.fI .blk 3 x.1) (A.lit 4)) fun x5=>
 A.ret _ (x1.1,x5.1,x.1,())) fun x5=>
 A.cond x5.2.1 (A.cl oC oD (A.fL .blk 2 .iop x5.2.2.1,A.fI .blk 4 x5.2.2.1,x5.1,()) fun x6=>
 A.cg x6.1 oC oD (A.fL .blk 2 .iop x5.2.2.1,A.fI .blk 5 x5.2.2.1,x5.1,()) fun x7=>
 A.cg (A.au x6.1 x7.1 (A.bl false)) xY xZ (A.fI .blk 6 x5.2.2.1,()) fun x8=>
 A.rb (A.au (A.au x6.1 x7.1 (A.bl false)) x8.1 (A.bl false)))<|
 A.rb (A.bl false)
def EW (A:Alg) (eU:Pt A eH) (eX:Ft A eH) (agh:Pt A Ar) (agi:Ft A Ar) (agj:Pt A Aq) (agk:Ft A Aq) (x:Tup A.ah [.x .blk]):Ot A fG:=
 A.l1 .b (A.bl false) fun x0=>
 A.cl eU eX (A.fI .blk 1 x.1,A.lit 1,A.lit 8,()) fun x1=>
 A.cg (A.aB (A.aB x1.1)) eU eX (A.fI .blk 0 x.1,A.lit 0,A.arith .sub .i64 (A.lit 64) (A.fI .blk 1 x.1),()) fun x2=>
 A.cond (A.au (A.au (A.aB x1.1) (A.bl true) (A.aB x2.1)) (A.bl true) (A.cmp .gtr (A.len .iop (A.fL .blk 2 .iop x.1)) (A.lit 48))) (A.rb (A.bl false))<|
 A.l1 .i (A.lit 0) fun x3=>
 A.iter [.i,.x .blk] (fun x4=>
 A.cond (A.cmp .lss x4.1 (A.len .iop (A.fL .blk 2 .iop x4.2.1))) (A.cl agj agk (A.fL .blk 2 .iop x4.2.1,x4.1,A.fI .blk 1 x4.2.1,()) fun x5=>
 A.cond (A.aB x5.1) (A.l1 .b (A.bl false) fun x6=>
 A.inr _<|A.ret _ (x6.1,()))<|
 A.l1 .i (A.arith .add .i64 x4.1 (A.lit 1)) fun x6=>
 A.inl _ (x6.1,x4.2.1,()))<|
 A.inr _<|A.cl agh agi (x4.2.1,()) fun x5=>
 A.rb x5.1) (x3.1,x.1,())
def EX (A:Alg) (Qe:Pt A Ao) (Qf:Ft A Ao) (xY:Pt A lK) (xZ:Ft A lK) (x:Tup A.ah [.i,.i,.i]):Ot A Au:=
 A.l1 .i (A.lit 0) fun x0=>
 A.cl xY xZ (x.2.1,()) fun x1=>
 A.cg (A.aB (A.aB x1.1)) xY xZ (x.2.2.1,()) fun x2=>
 A.cond (A.au (A.aB x1.1) (A.bl true) (A.aB x2.1)) (A.l1 .i (A.lit 0) fun x3=>
 A.ret _ (x3.1,()))<|
 A.l1 .b (A.cmp .eql x.1 (A.lit 1)) fun x3=>
 A.cond x3.1 (A.cl Qe Qf (A.arith .add .i64 x.2.1 x.2.2.1,()) fun x4=>
 A.l1 .i x4.1 fun x5=>
 A.ret _ (x5.1,()))<|
 A.l1 .b (A.cmp .eql x.1 (A.lit 2)) fun x4=>
 A.cond x4.1 (A.cl Qe Qf (A.arith .sub .i64 x.2.1 x.2.2.1,()) fun x5=>
 A.l1 .i x5.1 fun x6=>
 A.ret _ (x6.1,()))<|
 A.l1 .b (A.cmp .eql x.1 (A.lit 3)) fun x5=>
 A.cond x5.1 (A.cl Qe Qf (A.arith .mul .i64 x.2.1 x.2.2.1,()) fun x6=>
 A.l1 .i x6.1 fun x7=>
 A.ret _ (x7.1,()))<|
 A.l1 .b (A.cmp .eql x.1 (A.lit 4)) fun x6=>
 A.cond x6.1 (A.l1 .i (A.arith .and .i64 x.2.1 x.2.2.1) fun x7=>
 A.ret _ (x7.1,()))<|
 A.l1 .b (A.cmp .eql x.1 (A.lit 5)) fun x7=>
 A.cond x7.1 (A.l1 .i (A.arith .xor .i64 x.2.1 x.2.2.1) fun x8=>
 A.ret _ (x8.1,()))<|
 A.l1 .i (A.lit 0) fun x8=>
 A.ret _ (x8.1,())
def EY (A:Alg) (x:Tup A.ah [.x .blk]):Ot A lM:=
 A.l1 (.x .blk) x.1 fun x0=>
 A.l1 (.l .iop) (A.lst .iop []) fun x1=>
 A.chk (A.cmp .leq (A.addN (A.len .iop x1.1) (A.len .iop (A.fL .blk 2 .iop x.1))) (A.lit 1073741824))<|
 A.l1 (.l .iop) (A.app .iop x1.1 (A.fL .blk 2 .iop x.1)) fun x2=>
 A.ret _ (A.fI .blk 0 x0.1,A.fI .blk 1 x0.1,A.fI .blk 3 x0.1,A.fI .blk 4 x0.1,A.fI .blk 5 x0.1,A.fI .blk 6 x0.1,x2.1,())
def EZ (A:Alg) (eU:Pt A eH) (eX:Ft A eH) (x:Tup A.ah [.x .iop,.l .i64]):Ot A su:=
 A.l1 (.x .iop) x.1 fun x0=>
 A.cl eU eX (A.fI .iop 0 x.1,A.lit 3,A.lit 5,()) fun x1=>
 A.bind [.l .i64,.x .iop,.i,.i,.i,.i,.i,.x .iop] (A.cond (A.au (A.au x1.1 (A.bl true) (A.cmp .eql (A.fI .iop 0 x.1) (A.lit 7))) (A.bl true) (A.cmp .eql (A.fI .iop 0 x.1) (A.lit 8))) (A.bd .i64 x.2.1 (A.fI .iop 1 x.1)<|
 A.l1 .i (A.fI .i64 0 (A.get .i64 x.2.1 (A.fI .iop 1 x.1))) fun x2=>
 A.ret _ (x.2.1,x.1,A.lit 0,A.lit 0,A.lit 0,A.lit 0,A.lit 0,A.mkX .iop (A.fI .iop 0 x0.1,x2.1,A.fI .iop 2 x0.1,A.fI .iop 3 x0.1,A.fI .iop 4 x0.1,()),()))<|
 A.ret _ (x.2.1,x.1,A.lit 0,A.lit 0,A.lit 0,A.lit 0,A.lit 0,x0.1,())) fun x2=>
 A.bind [.i,.i,.i,.i,.i,.x .iop] (A.cond (A.au (A.cmp .eql (A.fI .iop 0 x2.2.1) (A.lit 3)) (A.bl true) (A.cmp .eql (A.fI .iop 0 x2.2.1) (A.lit 5))) (A.bd .i64 x2.1 (A.fI .iop 2 x2.2.1)<|
 A.l1 .i (A.fI .i64 0 (A.get .i64 x2.1 (A.fI .iop 2 x2.2.1))) fun x3=>
 A.ret _ (x2.2.2.1,x2.2.2.2.1,x2.q.1,x2.q.2.1,x2.q.2.2.1,A.mkX .iop (A.fI .iop 0 x2.q.2.2.2.1,A.fI .iop 1 x2.q.2.2.2.1,x3.1,A.fI .iop 3 x2.q.2.2.2.1,A.fI .iop 4 x2.q.2.2.2.1,()),()))<|
 A.ret _ (x2.2.2.1,x2.2.2.2.1,x2.q.1,x2.q.2.1,x2.q.2.2.1,x2.q.2.2.2.1,())) fun x3=>
 A.l1 (.x .iop) x3.q.2.1 fun x4=>
 A.ret _ (x4.1,())
def E5 (A:Alg) (mZ:Pt A fG) (nu:Ft A fG) (Qg:Pt A su) (Qh:Ft A su) (E8:Pt A lM) (E9:Ft A lM) (x:Tup A.ah [.x .blk]):Ot A lN:=
 A.cl mZ nu (x.1,()) fun x0=>
 A.cond (A.aB x0.1) (A.ret _ (A.lit 0,A.lit 0,A.lit 0,A.lit 0,A.lit 0,A.lit 0,A.bX .iop,()))<|
 A.cl E8 E9 (x.1,()) fun x1=>
 A.l1 (.l .i64) (A.lst .i64 []) fun x2=>
 A.l1 (.l .i64) (A.lst .i64 [A.mkX .i64 (A.lit (-1),()),A.mkX .i64 (A.lit (-1),()),A.mkX .i64 (A.lit (-1),()),A.mkX .i64 (A.lit (-1),())]) fun x3=>
 A.l1 .i (A.lit 0) fun x4=>
 A.iter [.i,.i,.i,.i,.i,.i,.i,.i,.i,.i,.i,.i,.i,.l .i64,.l .i64,.l .iop] (fun x5=>
 A.cond (A.cmp .lss x5.1 (A.len .iop x5.o.q.2.2.2.1)) (A.bd .iop x5.o.q.2.2.2.1 x5.1<|
 A.bd .iop x5.o.q.2.2.2.1 x5.1<|
 A.cl Qg Qh (A.get .iop x5.o.q.2.2.2.1 x5.1,x5.o.q.2.1,()) fun x6=>
 A.l1 (.x .iop) x6.1 fun x7=>
 A.bd .iop x5.o.q.2.2.2.1 x5.1<|
 A.bd .iop x5.o.q.2.2.2.1 x5.1<|
 A.l1 (.x .iop) x7.1 fun x8=>
 A.l1 .i x5.1 fun x9=>
 A.chk (A.orB (A.aB (A.cmp .eql (A.fI .iop 0 x7.1) (A.lit 2))) (A.cmp .leq (A.lit 0) (A.fI .iop 3 x7.1)))<|
 A.chk (A.orB (A.aB (A.cmp .eql (A.fI .iop 0 x7.1) (A.lit 2))) (A.cmp .lss (A.fI .iop 3 x7.1) (A.len .i64 x5.o.q.2.2.1)))<|
 A.chk (A.orB (A.aB (A.cmp .eql (A.fI .iop 0 x7.1) (A.lit 2))) (A.cmp .leq (A.lit 0) (A.fI .iop 3 x7.1)))<|
 A.chk (A.orB (A.aB (A.cmp .eql (A.fI .iop 0 x7.1) (A.lit 2))) (A.cmp .lss (A.fI .iop 3 x7.1) (A.len .i64 x5.o.q.2.2.1)))<|
 A.bind [.i,.i,.i,.i,.i,.i,.i,.i,.i,.i,.i,.i,.i,.i,.l .i64,.l .i64,.x .iop,.l .iop] (A.cond (A.au (A.cmp .eql (A.fI .iop 0 x7.1) (A.lit 2)) (A.cmp .geq (A.fI .i64 0 (A.get .i64 x5.o.q.2.2.1 (A.fI .iop 3 x7.1))) (A.lit 0)) (A.bl false)) (A.bd .i64 x5.o.q.2.2.1 (A.fI .iop 3 x7.1)<|
 A.bd .i64 x5.o.q.2.2.1 (A.fI .iop 3 x7.1)<|
 A.l1 .i (A.fI .i64 0 (A.get .i64 x5.o.q.2.2.1 (A.fI .iop 3 x7.1))) fun x10=>
 A.ret _ (x5.1,x10.1,x5.2.1,x5.2.2.1,x5.2.2.2.1,x5.q.1,x5.q.2.1,x5.q.2.2.1,x5.q.2.2.2.1,x5.o.1,x5.o.2.1,x5.o.2.2.1,x5.o.2.2.2.1,x5.o.q.1,x5.o.q.2.1,x5.o.q.2.2.1,x7.1,A.set .iop x5.o.q.2.2.2.1 x5.1 x8.1,()))<|
 A.ret _ (x5.1,x9.1,x5.2.1,x5.2.2.1,x5.2.2.2.1,x5.q.1,x5.q.2.1,x5.q.2.2.1,x5.q.2.2.2.1,x5.o.1,x5.o.2.1,x5.o.2.2.1,x5.o.2.2.2.1,x5.o.q.1,x5.o.q.2.1,x5.o.q.2.2.1,x7.1,A.set .iop x5.o.q.2.2.2.1 x5.1 x8.1,())) fun x10=>
 A.bind [.i,.i,.i,.i,.i,.i,.i,.i,.i,.i,.i,.i,.i,.i,.l .i64,.l .i64,.x .iop,.l .iop] (A.cond (A.cmp .eql (A.fI .iop 0 x10.o.o.1) (A.lit 2)) (A.bd .i64 x10.o.q.2.2.2.1 (A.fI .iop 3 x10.o.o.1)<|
 A.bd .i64 x10.o.q.2.2.2.1 (A.fI .iop 3 x10.o.o.1)<|
 A.l1 .i x10.2.1 fun x11=>
 A.ret _ (x10.1,x10.2.1,x10.2.2.1,x10.2.2.2.1,x10.q.1,x10.q.2.1,x10.q.2.2.1,x10.q.2.2.2.1,x10.o.1,x10.o.2.1,x10.o.2.2.1,x10.o.2.2.2.1,x10.o.q.1,x10.o.q.2.1,x10.o.q.2.2.1,A.set .i64 x10.o.q.2.2.2.1 (A.fI .iop 3 x10.o.o.1) (A.mkX .i64 (x11.1,())),x10.o.o.1,x10.o.o.2.1,()))<|
 A.ret _ (x10.1,x10.2.1,x10.2.2.1,x10.2.2.2.1,x10.q.1,x10.q.2.1,x10.q.2.2.1,x10.q.2.2.2.1,x10.o.1,x10.o.2.1,x10.o.2.2.1,x10.o.2.2.2.1,x10.o.q.1,x10.o.q.2.1,x10.o.q.2.2.1,x10.o.q.2.2.2.1,x10.o.o.1,x10.o.o.2.1,())) fun x11=>
 A.bind [.i,.i,.i,.i,.i,.i,.i,.i,.i,.i,.i,.i,.i,.i,.l .i64,.l .i64,.l .iop] (A.cond (A.cmp .eql (A.fI .iop 0 x11.o.o.1) (A.lit 8)) (A.bd .i64 x11.o.q.2.2.2.1 (A.fI .iop 3 x11.o.o.1)<|
 A.bd .i64 x11.o.q.2.2.2.1 (A.fI .iop 3 x11.o.o.1)<|
 A.l1 .i (A.fI .iop 1 x11.o.o.1) fun x12=>
 A.ret _ (x11.1,x11.2.1,x11.2.2.1,x11.2.2.2.1,x11.q.1,x11.q.2.1,x11.q.2.2.1,x11.q.2.2.2.1,x11.o.1,x11.o.2.1,x11.o.2.2.1,x11.o.2.2.2.1,x11.o.q.1,x11.o.q.2.1,x11.o.q.2.2.1,A.set .i64 x11.o.q.2.2.2.1 (A.fI .iop 3 x11.o.o.1) (A.mkX .i64 (x12.1,())),x11.o.o.2.1,()))<|
 A.ret _ (x11.1,x11.2.1,x11.2.2.1,x11.2.2.2.1,x11.q.1,x11.q.2.1,x11.q.2.2.1,x11.q.2.2.2.1,x11.o.1,x11.o.2.1,x11.o.2.2.1,x11.o.2.2.2.1,x11.o.q.1,x11.o.q.2.1,x11.o.q.2.2.1,x11.o.q.2.2.2.1,x11.o.o.2.1,())) fun x12=>
 A.l1 (.l .i64) (A.lst .i64 [A.mkX .i64 (x12.2.1,())]) fun x13=>
 A.chk (A.cmp .leq (A.addN (A.len .i64 x12.o.q.2.2.1) (A.len .i64 x13.1)) (A.lit 1073741824))<|
 A.l1 (.l .i64) (A.app .i64 x12.o.q.2.2.1 x13.1) fun x14=>
 A.l1 .i (A.arith .add .i64 x12.1 (A.lit 1)) fun x15=>
 A.inl _ (x15.1,x12.2.2.1,x12.2.2.2.1,x12.q.1,x12.q.2.1,x12.q.2.2.1,x12.q.2.2.2.1,x12.o.1,x12.o.2.1,x12.o.2.2.1,x12.o.2.2.2.1,x12.o.q.1,x12.o.q.2.1,x14.1,x12.o.q.2.2.2.1,x12.o.o.1,()))<|
 A.inr _<|A.bind [.i,.i,.i,.i,.i,.i,.i,.i,.i,.i,.i,.i,.l .i64,.l .iop] (A.cond (A.cmp .neq x5.o.2.1 (A.lit 1)) (A.bd .i64 x5.o.q.2.1 x5.o.2.2.1<|
 A.bd .i64 x5.o.q.2.1 x5.o.2.2.1<|
 A.l1 .i (A.fI .i64 0 (A.get .i64 x5.o.q.2.1 x5.o.2.2.1)) fun x6=>
 A.ret _ (x5.2.1,x5.2.2.1,x5.2.2.2.1,x5.q.1,x5.q.2.1,x5.q.2.2.1,x5.q.2.2.2.1,x5.o.1,x5.o.2.1,x6.1,x5.o.2.2.2.1,x5.o.q.1,x5.o.q.2.1,x5.o.q.2.2.2.1,()))<|
 A.ret _ (x5.2.1,x5.2.2.1,x5.2.2.2.1,x5.q.1,x5.q.2.1,x5.q.2.2.1,x5.q.2.2.2.1,x5.o.1,x5.o.2.1,x5.o.2.2.1,x5.o.2.2.2.1,x5.o.q.1,x5.o.q.2.1,x5.o.q.2.2.2.1,())) fun x6=>
 A.bind [.i,.i,.i,.i,.i,.i,.i,.i,.i,.i,.i,.i,.l .iop] (A.cond (A.au (A.cmp .eql x6.o.1 (A.lit 3)) (A.bl true) (A.cmp .eql x6.o.1 (A.lit 4))) (A.bd .i64 x6.o.q.1 x6.o.2.2.1<|
 A.bd .i64 x6.o.q.1 x6.o.2.2.1<|
 A.l1 .i (A.fI .i64 0 (A.get .i64 x6.o.q.1 x6.o.2.2.1)) fun x7=>
 A.ret _ (x6.1,x6.2.1,x6.2.2.1,x6.2.2.2.1,x6.q.1,x6.q.2.1,x6.q.2.2.1,x6.q.2.2.2.1,x6.o.1,x6.o.2.1,x7.1,x6.o.2.2.2.1,x6.o.q.2.1,()))<|
 A.ret _ (x6.1,x6.2.1,x6.2.2.1,x6.2.2.2.1,x6.q.1,x6.q.2.1,x6.q.2.2.1,x6.q.2.2.2.1,x6.o.1,x6.o.2.1,x6.o.2.2.1,x6.o.2.2.2.1,x6.o.q.2.1,())) fun x7=>
 A.ret _ (x7.q.2.2.1,x7.q.2.2.2.1,x7.o.1,x7.o.2.1,x7.o.2.2.1,x7.o.2.2.2.1,x7.o.q.1,())) (x4.1,A.lit 0,A.lit 0,A.lit 0,A.lit 0,A.lit 0,A.lit 0,x1.1,x1.2.1,x1.2.2.1,x1.2.2.2.1,x1.q.1,x1.q.2.1,x2.1,x3.1,x1.q.2.2.1,())
def Fa (A:Alg) (x:Tup A.ah [.l .iop,.i]):Ot A sw:=
 A.l1 .i (A.lit 0) fun x0=>
 A.l1 .b (A.bl false) fun x1=>
 A.chk (A.orB (A.aB (A.aB (A.au (A.cmp .lss x.2.1 (A.lit 0)) (A.bl true) (A.cmp .geq x.2.1 (A.len .iop x.1))))) (A.cmp .leq (A.lit 0) x.2.1))<|
 A.chk (A.orB (A.aB (A.aB (A.au (A.cmp .lss x.2.1 (A.lit 0)) (A.bl true) (A.cmp .geq x.2.1 (A.len .iop x.1))))) (A.cmp .lss x.2.1 (A.len .iop x.1)))<|
 A.cond (A.au (A.au (A.cmp .lss x.2.1 (A.lit 0)) (A.bl true) (A.cmp .geq x.2.1 (A.len .iop x.1))) (A.bl true) (A.cmp .neq (A.fI .iop 0 (A.get .iop x.1 x.2.1)) (A.lit 1))) (A.l1 .i (A.lit 0) fun x2=>
 A.l1 .b (A.bl false) fun x3=>
 A.ret _ (x2.1,x3.1,()))<|
 A.bd .iop x.1 x.2.1<|
 A.l1 .i (A.fI .iop 3 (A.get .iop x.1 x.2.1)) fun x2=>
 A.l1 .b (A.bl true) fun x3=>
 A.ret _ (x2.1,x3.1,())
def Fb (A:Alg) (x:Tup A.ah [.x .blk,.i]):Ot A Av:=
 A.l1 .i (A.lit 1) fun x0=>
 A.l1 .i (A.lit 0) fun x1=>
 A.l1 .i (A.lit 0) fun x2=>
 A.l1 .i x.2.1 fun x3=>
 A.ret _ (A.fI .blk 0 x.1,A.fI .blk 1 x.1,A.fL .blk 2 .iop x.1,x0.1,x1.1,x2.1,x3.1,())
def Fe (A:Alg) (Qi:Pt A Av) (Qj:Ft A Av) (Fg:Pt A sw) (Fh:Ft A sw) (x:Tup A.ah [.x .blk]):Ot A Aw:=
 A.cl Fg Fh (A.fL .blk 2 .iop x.1,A.fI .blk 4 x.1,()) fun x0=>
 A.l1 .i x0.1 fun x1=>
 A.l1 .b x0.2.1 fun x2=>
 A.cl Fg Fh (A.fL .blk 2 .iop x.1,A.fI .blk 5 x.1,()) fun x3=>
 A.l1 .i x3.1 fun x4=>
 A.l1 .b x3.2.1 fun x5=>
 A.l1 .b (A.au (A.cmp .eql (A.fI .blk 3 x.1) (A.lit 2)) x2.1 (A.bl false)) fun x6=>
 A.cond x6.1 (A.cl Qi Qj (x.1,x1.1,()) fun x7=>
 A.ret _ (A.mkX .blk (x7.1,x7.2.1,x7.2.2.1,x7.2.2.2.1,x7.q.1,x7.q.2.1,x7.q.2.2.1,()),()))<|
 A.l1 .b (A.au (A.au (A.au (A.cmp .eql (A.fI .blk 3 x.1) (A.lit 3)) x2.1 (A.bl false)) x5.1 (A.bl false)) (A.cmp .eql x1.1 x4.1) (A.bl false)) fun x7=>
 A.bind [.b,.b,.b,.x .blk,.i,.i,.i,.i,.i,.i] (A.cond x7.1 (A.ret _ (x2.1,x5.1,x7.1,x.1,A.lit 0,A.lit 0,A.lit 0,A.lit 0,A.lit 0,A.lit 0,()))<|
 A.l1 .b (A.au (A.au (A.au (A.cmp .eql (A.fI .blk 3 x.1) (A.lit 4)) x2.1 (A.bl false)) x5.1 (A.bl false)) (A.cmp .lss x1.1 x4.1) (A.bl false)) fun x8=>
 A.ret _ (x2.1,x5.1,x8.1,x.1,A.lit 0,A.lit 0,A.lit 0,A.lit 0,A.lit 0,A.lit 0,())) fun x8=>
 A.cond x8.2.2.1 (A.cl Qi Qj (x8.2.2.2.1,A.fI .blk 6 x8.2.2.2.1,()) fun x9=>
 A.ret _ (A.mkX .blk (x9.1,x9.2.1,x9.2.2.1,x9.2.2.2.1,x9.q.1,x9.q.2.1,x9.q.2.2.1,()),()))<|
 A.l1 .b (A.au (A.au (A.au (A.cmp .eql (A.fI .blk 3 x8.2.2.2.1) (A.lit 3)) (A.bl true) (A.cmp .eql (A.fI .blk 3 x8.2.2.2.1) (A.lit 4))) x8.1 (A.bl false)) x8.2.1 (A.bl false)) fun x9=>
 A.cond x9.1 (A.cl Qi Qj (x8.2.2.2.1,A.arith .add .i64 (A.fI .blk 0 x8.2.2.2.1) (A.fI .blk 1 x8.2.2.2.1),()) fun x10=>
 A.ret _ (A.mkX .blk (x10.1,x10.2.1,x10.2.2.1,x10.2.2.2.1,x10.q.1,x10.q.2.1,x10.q.2.2.1,()),()))<|
 A.l1 (.x .blk) x8.2.2.2.1 fun x10=>
 A.ret _ (x10.1,())
def Fj (A:Alg) (mZ:Pt A fG) (nu:Ft A fG) (agl:Pt A Au) (agm:Ft A Au) (agn:Pt A Aw) (agp:Ft A Aw) (Fg:Pt A sw) (Fh:Ft A sw) (E8:Pt A lM) (E9:Ft A lM) (x:Tup A.ah [.x .blk]):Ot A sD:=
 A.cl mZ nu (x.1,()) fun x0=>
 A.cond (A.aB x0.1) (A.ret _ (A.mkX .blk (A.lit 0,A.lit 0,A.bX .iop,A.lit 0,A.lit 0,A.lit 0,A.lit 0,()),()))<|
 A.cl E8 E9 (x.1,()) fun x1=>
 A.l1 .i (A.lit 0) fun x2=>
 A.iter [.i,.i,.i,.i,.i,.i,.i,.i,.i,.i,.i,.i,.i,.l .iop] (fun x3=>
 A.cond (A.cmp .lss x3.1 (A.len .iop x3.o.q.2.1)) (A.bd .iop x3.o.q.2.1 x3.1<|
 A.bd .iop x3.o.q.2.1 x3.1<|
 A.l1 (.x .iop) (A.get .iop x3.o.q.2.1 x3.1) fun x4=>
 A.cl Fg Fh (x3.o.q.2.1,A.fI .iop 1 x4.1,()) fun x5=>
 A.l1 .i x5.1 fun x6=>
 A.l1 .b x5.2.1 fun x7=>
 A.cl Fg Fh (x3.o.q.2.1,A.fI .iop 2 x4.1,()) fun x8=>
 A.l1 .i x8.1 fun x9=>
 A.l1 .b x8.2.1 fun x10=>
 A.bind [.i,.i,.i,.i,.i,.i,.i,.i,.i,.i,.i,.i,.i,.l .iop] (A.cond (A.au (A.au (A.cmp .eql (A.fI .iop 0 x4.1) (A.lit 3)) x7.1 (A.bl false)) x10.1 (A.bl false)) (A.cl agl agm (A.fI .iop 3 x4.1,x6.1,x9.1,()) fun x11=>
 A.bd .iop x3.o.q.2.1 x3.1<|
 A.bd .iop x3.o.q.2.1 x3.1<|
 A.ret _ (x3.1,x3.2.1,x3.2.2.1,x3.2.2.2.1,x3.q.1,x3.q.2.1,x3.q.2.2.1,x3.q.2.2.2.1,x3.o.1,x3.o.2.1,x3.o.2.2.1,x3.o.2.2.2.1,x3.o.q.1,A.set .iop x3.o.q.2.1 x3.1 (A.mkX .iop (A.lit 1,A.lit 0,A.lit 0,x11.1,A.lit 0,())),()))<|
 A.ret _ (x3.1,x3.2.1,x3.2.2.1,x3.2.2.2.1,x3.q.1,x3.q.2.1,x3.q.2.2.1,x3.q.2.2.2.1,x3.o.1,x3.o.2.1,x3.o.2.2.1,x3.o.2.2.2.1,x3.o.q.1,x3.o.q.2.1,())) fun x11=>
 A.l1 .i (A.arith .add .i64 x11.1 (A.lit 1)) fun x12=>
 A.inl _ (x12.1,x11.2.1,x11.2.2.1,x11.2.2.2.1,x11.q.1,x11.q.2.1,x11.q.2.2.1,x11.q.2.2.2.1,x11.o.1,x11.o.2.1,x11.o.2.2.1,x11.o.2.2.2.1,x11.o.q.1,x11.o.q.2.1,()))<|
 A.inr _<|A.cl agn agp (A.mkX .blk (x3.q.2.2.2.1,x3.o.1,x3.o.q.2.1,x3.o.2.1,x3.o.2.2.1,x3.o.2.2.2.1,x3.o.q.1,()),()) fun x4=>
 A.l1 (.x .blk) x4.1 fun x5=>
 A.ret _ (x5.1,())) (x2.1,A.lit 0,A.lit 0,A.lit 0,A.lit 0,A.lit 0,A.lit 0,x1.1,x1.2.1,x1.2.2.1,x1.2.2.2.1,x1.q.1,x1.q.2.1,x1.q.2.2.1,())
def Fp (A:Alg) (x:Tup A.ah [.l .iop,.i]):Ot A Ay:=
 A.l1 .b (A.bl false) fun x0=>
 A.l1 .i (A.arith .add .i64 x.2.1 (A.lit 1)) fun x1=>
 A.iter [.l .iop,.i,.i] (fun x2=>
 A.cond (A.cmp .lss x2.2.2.1 (A.len .iop x2.1)) (A.bd .iop x2.1 x2.2.2.1<|
 A.chk (A.orB (A.aB (A.aB (A.cmp .eql (A.fI .iop 0 (A.get .iop x2.1 x2.2.2.1)) (A.lit 4)))) (A.cmp .leq (A.lit 0) x2.2.2.1))<|
 A.chk (A.orB (A.aB (A.aB (A.cmp .eql (A.fI .iop 0 (A.get .iop x2.1 x2.2.2.1)) (A.lit 4)))) (A.cmp .lss x2.2.2.1 (A.len .iop x2.1)))<|
 A.chk (A.orB (A.aB (A.aB (A.au (A.cmp .eql (A.fI .iop 0 (A.get .iop x2.1 x2.2.2.1)) (A.lit 4)) (A.bl true) (A.cmp .eql (A.fI .iop 0 (A.get .iop x2.1 x2.2.2.1)) (A.lit 5))))) (A.cmp .leq (A.lit 0) x2.2.2.1))<|
 A.chk (A.orB (A.aB (A.aB (A.au (A.cmp .eql (A.fI .iop 0 (A.get .iop x2.1 x2.2.2.1)) (A.lit 4)) (A.bl true) (A.cmp .eql (A.fI .iop 0 (A.get .iop x2.1 x2.2.2.1)) (A.lit 5))))) (A.cmp .lss x2.2.2.1 (A.len .iop x2.1)))<|
 A.chk (A.orB (A.aB (A.mP (A.aB (A.au (A.cmp .eql (A.fI .iop 0 (A.get .iop x2.1 x2.2.2.1)) (A.lit 4)) (A.bl true) (A.cmp .eql (A.fI .iop 0 (A.get .iop x2.1 x2.2.2.1)) (A.lit 5)))) (A.cmp .eql (A.fI .iop 0 (A.get .iop x2.1 x2.2.2.1)) (A.lit 2)))) (A.cmp .leq (A.lit 0) x2.2.2.1))<|
 A.chk (A.orB (A.aB (A.mP (A.aB (A.au (A.cmp .eql (A.fI .iop 0 (A.get .iop x2.1 x2.2.2.1)) (A.lit 4)) (A.bl true) (A.cmp .eql (A.fI .iop 0 (A.get .iop x2.1 x2.2.2.1)) (A.lit 5)))) (A.cmp .eql (A.fI .iop 0 (A.get .iop x2.1 x2.2.2.1)) (A.lit 2)))) (A.cmp .lss x2.2.2.1 (A.len .iop x2.1)))<|
 A.chk (A.orB (A.aB (A.mP (A.aB (A.au (A.cmp .eql (A.fI .iop 0 (A.get .iop x2.1 x2.2.2.1)) (A.lit 4)) (A.bl true) (A.cmp .eql (A.fI .iop 0 (A.get .iop x2.1 x2.2.2.1)) (A.lit 5)))) (A.cmp .eql (A.fI .iop 0 (A.get .iop x2.1 x2.2.2.1)) (A.lit 2)))) (A.cmp .leq (A.lit 0) x2.2.1))<|
 A.chk (A.orB (A.aB (A.mP (A.aB (A.au (A.cmp .eql (A.fI .iop 0 (A.get .iop x2.1 x2.2.2.1)) (A.lit 4)) (A.bl true) (A.cmp .eql (A.fI .iop 0 (A.get .iop x2.1 x2.2.2.1)) (A.lit 5)))) (A.cmp .eql (A.fI .iop 0 (A.get .iop x2.1 x2.2.2.1)) (A.lit 2)))) (A.cmp .lss x2.2.1 (A.len .iop x2.1)))<|
 A.cond (A.au (A.au (A.cmp .eql (A.fI .iop 0 (A.get .iop x2.1 x2.2.2.1)) (A.lit 4)) (A.bl true) (A.cmp .eql (A.fI .iop 0 (A.get .iop x2.1 x2.2.2.1)) (A.lit 5))) (A.bl true) (A.au (A.cmp .eql (A.fI .iop 0 (A.get .iop x2.1 x2.2.2.1)) (A.lit 2)) (A.cmp .eql (A.fI .iop 3 (A.get .iop x2.1 x2.2.2.1)) (A.fI .iop 3 (A.get .iop x2.1 x2.2.1))) (A.bl false))) (A.l1 .b (A.bl false) fun x3=>
 A.inr _<|A.ret _ (x3.1,()))<|
 A.bd .iop x2.1 x2.2.2.1<|
 A.chk (A.orB (A.aB (A.cmp .eql (A.fI .iop 0 (A.get .iop x2.1 x2.2.2.1)) (A.lit 8))) (A.cmp .leq (A.lit 0) x2.2.2.1))<|
 A.chk (A.orB (A.aB (A.cmp .eql (A.fI .iop 0 (A.get .iop x2.1 x2.2.2.1)) (A.lit 8))) (A.cmp .lss x2.2.2.1 (A.len .iop x2.1)))<|
 A.chk (A.orB (A.aB (A.cmp .eql (A.fI .iop 0 (A.get .iop x2.1 x2.2.2.1)) (A.lit 8))) (A.cmp .leq (A.lit 0) x2.2.1))<|
 A.chk (A.orB (A.aB (A.cmp .eql (A.fI .iop 0 (A.get .iop x2.1 x2.2.2.1)) (A.lit 8))) (A.cmp .lss x2.2.1 (A.len .iop x2.1)))<|
 A.cond (A.au (A.cmp .eql (A.fI .iop 0 (A.get .iop x2.1 x2.2.2.1)) (A.lit 8)) (A.cmp .eql (A.fI .iop 3 (A.get .iop x2.1 x2.2.2.1)) (A.fI .iop 3 (A.get .iop x2.1 x2.2.1))) (A.bl false)) (A.l1 .b (A.bl true) fun x3=>
 A.inr _<|A.ret _ (x3.1,()))<|
 A.l1 .i (A.arith .add .i64 x2.2.2.1 (A.lit 1)) fun x3=>
 A.inl _ (x2.1,x2.2.1,x3.1,()))<|
 A.inr _<|A.rb (A.bl false)) (x.1,x.2.1,x1.1,())
def Fq (A:Alg) (Qg:Pt A su) (Qh:Ft A su) (x:Tup A.ah [.x .blk,.l .bool]):Ot A sF:=
 A.l1 (.l .iop) (A.lst .iop []) fun x0=>
 A.l1 (.l .i64) (A.lst .i64 []) fun x1=>
 A.l1 .i (A.lit 0) fun x2=>
 A.iter [.l .bool,.i,.x .blk,.i,.i,.i,.i,.i,.i,.l .iop,.l .i64] (fun x3=>
 A.cond (A.cmp .lss x3.2.1 (A.len .iop (A.fL .blk 2 .iop x3.2.2.1))) (A.l1 (.l .i64) (A.lst .i64 [A.mkX .i64 (A.len .iop x3.o.2.1,())]) fun x4=>
 A.chk (A.cmp .leq (A.addN (A.len .i64 x3.o.2.2.1) (A.len .i64 x4.1)) (A.lit 1073741824))<|
 A.l1 (.l .i64) (A.app .i64 x3.o.2.2.1 x4.1) fun x5=>
 A.bd .bool x3.1 x3.2.1<|
 A.bind [.l .bool,.i,.x .blk,.i,.i,.i,.i,.i,.i,.l .iop,.l .i64] (A.cond (A.fB .bool 0 (A.get .bool x3.1 x3.2.1)) (A.bd .iop (A.fL .blk 2 .iop x3.2.2.1) x3.2.1<|
 A.cl Qg Qh (A.get .iop (A.fL .blk 2 .iop x3.2.2.1) x3.2.1,x5.1,()) fun x6=>
 A.l1 (.l .iop) (A.lst .iop [x6.1]) fun x7=>
 A.chk (A.cmp .leq (A.addN (A.len .iop x3.o.2.1) (A.len .iop x7.1)) (A.lit 1073741824))<|
 A.l1 (.l .iop) (A.app .iop x3.o.2.1 x7.1) fun x8=>
 A.ret _ (x3.1,x3.2.1,x3.2.2.1,x3.2.2.2.1,x3.q.1,x3.q.2.1,x3.q.2.2.1,x3.q.2.2.2.1,x3.o.1,x8.1,x5.1,()))<|
 A.ret _ (x3.1,x3.2.1,x3.2.2.1,x3.2.2.2.1,x3.q.1,x3.q.2.1,x3.q.2.2.1,x3.q.2.2.2.1,x3.o.1,x3.o.2.1,x5.1,())) fun x6=>
 A.l1 .i (A.arith .add .i64 x6.2.1 (A.lit 1)) fun x7=>
 A.inl _ (x6.1,x7.1,x6.2.2.1,x6.2.2.2.1,x6.q.1,x6.q.2.1,x6.q.2.2.1,x6.q.2.2.2.1,x6.o.1,x6.o.2.1,x6.o.2.2.1,()))<|
 A.inr _<|A.l1 (.x .blk) x3.2.2.1 fun x4=>
 A.bind [.x .blk,.i,.i,.i,.i,.i,.i,.l .i64,.i,.i,.i,.i,.i,.i,.l .iop] (A.cond (A.cmp .neq (A.fI .blk 3 x3.2.2.1) (A.lit 1)) (A.bd .i64 x3.o.2.2.1 (A.fI .blk 4 x3.2.2.1)<|
 A.bd .i64 x3.o.2.2.1 (A.fI .blk 4 x3.2.2.1)<|
 A.l1 .i (A.fI .i64 0 (A.get .i64 x3.o.2.2.1 (A.fI .blk 4 x3.2.2.1))) fun x5=>
 A.ret _ (x3.2.2.1,x3.2.2.2.1,x3.q.1,x3.q.2.1,x3.q.2.2.1,x3.q.2.2.2.1,x3.o.1,x3.o.2.2.1,A.fI .blk 0 x4.1,A.fI .blk 1 x4.1,A.fI .blk 3 x4.1,x5.1,A.fI .blk 5 x4.1,A.fI .blk 6 x4.1,x3.o.2.1,()))<|
 A.ret _ (x3.2.2.1,x3.2.2.2.1,x3.q.1,x3.q.2.1,x3.q.2.2.1,x3.q.2.2.2.1,x3.o.1,x3.o.2.2.1,A.fI .blk 0 x4.1,A.fI .blk 1 x4.1,A.fI .blk 3 x4.1,A.fI .blk 4 x4.1,A.fI .blk 5 x4.1,A.fI .blk 6 x4.1,x3.o.2.1,())) fun x5=>
 A.bind [.i,.i,.i,.i,.i,.i,.i,.i,.i,.i,.i,.i,.l .iop] (A.cond (A.au (A.cmp .eql (A.fI .blk 3 x5.1) (A.lit 3)) (A.bl true) (A.cmp .eql (A.fI .blk 3 x5.1) (A.lit 4))) (A.bd .i64 x5.q.2.2.2.1 (A.fI .blk 5 x5.1)<|
 A.bd .i64 x5.q.2.2.2.1 (A.fI .blk 5 x5.1)<|
 A.l1 .i (A.fI .i64 0 (A.get .i64 x5.q.2.2.2.1 (A.fI .blk 5 x5.1))) fun x6=>
 A.ret _ (x5.2.1,x5.2.2.1,x5.2.2.2.1,x5.q.1,x5.q.2.1,x5.q.2.2.1,x5.o.1,x5.o.2.1,x5.o.2.2.1,x5.o.2.2.2.1,x6.1,x5.o.q.2.1,x5.o.q.2.2.1,()))<|
 A.ret _ (x5.2.1,x5.2.2.1,x5.2.2.2.1,x5.q.1,x5.q.2.1,x5.q.2.2.1,x5.o.1,x5.o.2.1,x5.o.2.2.1,x5.o.2.2.2.1,x5.o.q.1,x5.o.q.2.1,x5.o.q.2.2.1,())) fun x6=>
 A.ret _ (x6.q.2.2.1,x6.q.2.2.2.1,x6.o.1,x6.o.2.1,x6.o.2.2.1,x6.o.2.2.2.1,x6.o.q.1,())) (x.2.1,x2.1,x.1,A.lit 0,A.lit 0,A.lit 0,A.lit 0,A.lit 0,A.lit 0,x0.1,x1.1,())
def Fu (A:Alg) (mZ:Pt A fG) (nu:Ft A fG) (Qk:Pt A sF) (Ql:Ft A sF) (agq:Pt A Ay) (agr:Ft A Ay) (x:Tup A.ah [.x .blk]):Ot A Az:=
 A.cl mZ nu (x.1,()) fun x0=>
 A.cond (A.aB x0.1) (A.ret _ (A.lit 0,A.lit 0,A.lit 0,A.lit 0,A.lit 0,A.lit 0,A.bX .iop,()))<|
 A.l1 (.l .bool) (A.lst .bool []) fun x1=>
 A.l1 .i (A.lit 0) fun x2=>
 A.iter [.i,.x .blk,.i,.i,.i,.i,.i,.i,.l .bool] (fun x3=>
 A.cond (A.cmp .lss x3.1 (A.len .iop (A.fL .blk 2 .iop x3.2.1))) (A.bd .iop (A.fL .blk 2 .iop x3.2.1) x3.1<|
 A.cg (A.aB (A.cmp .neq (A.fI .iop 0 (A.get .iop (A.fL .blk 2 .iop x3.2.1) x3.1)) (A.lit 8))) agq agr (A.fL .blk 2 .iop x3.2.1,x3.1,()) fun x4=>
 A.l1 (.l .bool) (A.lst .bool [A.mkX .bool (A.au (A.cmp .neq (A.fI .iop 0 (A.get .iop (A.fL .blk 2 .iop x3.2.1) x3.1)) (A.lit 8)) (A.bl true) (A.aB x4.1),())]) fun x5=>
 A.chk (A.cmp .leq (A.addN (A.len .bool x3.o.1) (A.len .bool x5.1)) (A.lit 1073741824))<|
 A.l1 (.l .bool) (A.app .bool x3.o.1 x5.1) fun x6=>
 A.l1 .i (A.arith .add .i64 x3.1 (A.lit 1)) fun x7=>
 A.inl _ (x7.1,x3.2.1,x3.2.2.1,x3.2.2.2.1,x3.q.1,x3.q.2.1,x3.q.2.2.1,x3.q.2.2.2.1,x6.1,()))<|
 A.inr _<|A.cl Qk Ql (x3.2.1,x3.o.1,()) fun x4=>
 A.ret _ (x4.1,x4.2.1,x4.2.2.1,x4.2.2.2.1,x4.q.1,x4.q.2.1,x4.q.2.2.1,())) (x2.1,x.1,A.lit 0,A.lit 0,A.lit 0,A.lit 0,A.lit 0,A.lit 0,x1.1,())
def Fv (A:Alg) (mZ:Pt A fG) (nu:Ft A fG) (eU:Pt A eH) (eX:Ft A eH) (x:Tup A.ah [.x .blk]):Ot A AA:=
 A.l1 (.l .bool) (A.lst .bool []) fun x0=>
 A.cl mZ nu (x.1,()) fun x1=>
 A.cond (A.aB x1.1) (A.ret _ (x0.1,()))<|
 A.l1 .i (A.lit 0) fun x2=>
 A.iter [.i,.x .blk,.l .bool] (fun x3=>
 A.cond (A.cmp .lss x3.1 (A.len .iop (A.fL .blk 2 .iop x3.2.1))) (A.bd .iop (A.fL .blk 2 .iop x3.2.1) x3.1<|
 A.l1 (.l .bool) (A.lst .bool [A.mkX .bool (A.cmp .geq (A.fI .iop 0 (A.get .iop (A.fL .blk 2 .iop x3.2.1) x3.1)) (A.lit 4),())]) fun x4=>
 A.chk (A.cmp .leq (A.addN (A.len .bool x3.2.2.1) (A.len .bool x4.1)) (A.lit 1073741824))<|
 A.l1 (.l .bool) (A.app .bool x3.2.2.1 x4.1) fun x5=>
 A.l1 .i (A.arith .add .i64 x3.1 (A.lit 1)) fun x6=>
 A.inl _ (x6.1,x3.2.1,x5.1,()))<|
 A.inr _<|A.bind [.x .blk,.l .bool] (A.cond (A.cmp .neq (A.fI .blk 3 x3.2.1) (A.lit 1)) (A.bd .bool x3.2.2.1 (A.fI .blk 4 x3.2.1)<|
 A.bd .bool x3.2.2.1 (A.fI .blk 4 x3.2.1)<|
 A.l1 .b (A.bl true) fun x4=>
 A.ret _ (x3.2.1,A.set .bool x3.2.2.1 (A.fI .blk 4 x3.2.1) (A.mkX .bool (x4.1,())),()))<|
 A.ret _ (x3.2.1,x3.2.2.1,())) fun x4=>
 A.bind [.x .blk,.l .bool] (A.cond (A.au (A.cmp .eql (A.fI .blk 3 x4.1) (A.lit 3)) (A.bl true) (A.cmp .eql (A.fI .blk 3 x4.1) (A.lit 4))) (A.bd .bool x4.2.1 (A.fI .blk 5 x4.1)<|
 A.bd .bool x4.2.1 (A.fI .blk 5 x4.1)<|
 A.l1 .b (A.bl true) fun x5=>
 A.ret _ (x4.1,A.set .bool x4.2.1 (A.fI .blk 5 x4.1) (A.mkX .bool (x5.1,())),()))<|
 A.ret _ (x4.1,x4.2.1,())) fun x5=>
 A.l1 .i (A.arith .sub .i64 (A.len .iop (A.fL .blk 2 .iop x5.1)) (A.lit 1)) fun x6=>
 A.iter [.i,.x .blk,.l .bool] (fun x7=>
 A.cond (A.cmp .geq x7.1 (A.lit 0)) (A.lu [.i,.x .blk,.l .bool] (A.bd .iop (A.fL .blk 2 .iop x7.2.1) x7.1<|
 A.l1 (.x .iop) (A.get .iop (A.fL .blk 2 .iop x7.2.1) x7.1) fun x8=>
 A.bd .bool x7.2.2.1 x7.1<|
 A.bd .bool x7.2.2.1 x7.1<|
 A.cond (A.aB (A.fB .bool 0 (A.get .bool x7.2.2.1 x7.1))) (A.inl _ (x7.1,x7.2.1,x7.2.2.1,()))<|
 A.cl eU eX (A.fI .iop 0 x8.1,A.lit 3,A.lit 5,()) fun x9=>
 A.bind [.i,.x .blk,.l .bool,.x .iop] (A.cond (A.au (A.au x9.1 (A.bl true) (A.cmp .eql (A.fI .iop 0 x8.1) (A.lit 7))) (A.bl true) (A.cmp .eql (A.fI .iop 0 x8.1) (A.lit 8))) (A.bd .bool x7.2.2.1 (A.fI .iop 1 x8.1)<|
 A.bd .bool x7.2.2.1 (A.fI .iop 1 x8.1)<|
 A.l1 .b (A.bl true) fun x10=>
 A.ret _ (x7.1,x7.2.1,A.set .bool x7.2.2.1 (A.fI .iop 1 x8.1) (A.mkX .bool (x10.1,())),x8.1,()))<|
 A.ret _ (x7.1,x7.2.1,x7.2.2.1,x8.1,())) fun x10=>
 A.bind [.i,.x .blk,.l .bool] (A.cond (A.au (A.cmp .eql (A.fI .iop 0 x10.2.2.2.1) (A.lit 3)) (A.bl true) (A.cmp .eql (A.fI .iop 0 x10.2.2.2.1) (A.lit 5))) (A.bd .bool x10.2.2.1 (A.fI .iop 2 x10.2.2.2.1)<|
 A.bd .bool x10.2.2.1 (A.fI .iop 2 x10.2.2.2.1)<|
 A.l1 .b (A.bl true) fun x11=>
 A.ret _ (x10.1,x10.2.1,A.set .bool x10.2.2.1 (A.fI .iop 2 x10.2.2.2.1) (A.mkX .bool (x11.1,())),()))<|
 A.ret _ (x10.1,x10.2.1,x10.2.2.1,())) fun x11=>
 A.inl _ (x11.1,x11.2.1,x11.2.2.1,())) fun x8=>
 A.l1 .i (A.arith .sub .i64 x8.1 (A.lit 1)) fun x9=>
 A.inl _ (x9.1,x8.2.1,x8.2.2.1,()))<|
 A.inr _<|A.ret _ (x7.2.2.1,())) (x6.1,x5.1,x5.2.1,())) (x2.1,x.1,x0.1,())
def Fw (A:Alg) (mZ:Pt A fG) (nu:Ft A fG) (ags:Pt A AA) (agt:Ft A AA) (Qk:Pt A sF) (Ql:Ft A sF) (x:Tup A.ah [.x .blk]):Ot A AB:=
 A.cl mZ nu (x.1,()) fun x0=>
 A.cond (A.aB x0.1) (A.ret _ (A.lit 0,A.lit 0,A.lit 0,A.lit 0,A.lit 0,A.lit 0,A.bX .iop,()))<|
 A.cl ags agt (x.1,()) fun x1=>
 A.cl Qk Ql (x.1,x1.1,()) fun x2=>
 A.ret _ (x2.1,x2.2.1,x2.2.2.1,x2.2.2.2.1,x2.q.1,x2.q.2.1,x2.q.2.2.1,())
def Fx (A:Alg) (Qm:Pt A sD) (Qn:Ft A sD) (Fy:Pt A lN) (Fz:Ft A lN) (W9:Pt A AB) (Xa:Ft A AB) (agu:Pt A Az) (agv:Ft A Az) (x:Tup A.ah [.x .blk]):Ot A AJ:=
 A.cl Fy Fz (x.1,()) fun x0=>
 A.cl Qm Qn (A.mkX .blk (x0.1,x0.2.1,x0.q.2.2.1,x0.2.2.1,x0.2.2.2.1,x0.q.1,x0.q.2.1,()),()) fun x1=>
 A.cl W9 Xa (x1.1,()) fun x2=>
 A.cl agu agv (A.mkX .blk (x2.1,x2.2.1,x2.q.2.2.1,x2.2.2.1,x2.2.2.2.1,x2.q.1,x2.q.2.1,()),()) fun x3=>
 A.cl W9 Xa (A.mkX .blk (x3.1,x3.2.1,x3.q.2.2.1,x3.2.2.1,x3.2.2.2.1,x3.q.1,x3.q.2.1,()),()) fun x4=>
 A.ret _ (x4.1,x4.2.1,x4.2.2.1,x4.2.2.2.1,x4.q.1,x4.q.2.1,x4.q.2.2.1,())
def FB (A:Alg) (aY:Pt A dO) (aZ:Ft A dO) (x:Tup A.ah [.l .u8,.i]):Ot A AL:=
 A.cl aY aZ (A.lit 4,x.1,x.2.1,()) fun x0=>
 A.l1 .i x0.1 fun x1=>
 A.cl aY aZ (A.lit 4,x0.2.1,x0.2.2.1,()) fun x2=>
 A.l1 .i x2.1 fun x3=>
 A.cl aY aZ (A.lit 14,x2.2.1,x2.2.2.1,()) fun x4=>
 A.l1 .b (A.cmp .eql x4.1 (A.lit 0)) fun x5=>
 A.bind [.i,.i,.i,.b,.l .u8,.i,.i,.i,.i,.i] (A.cond x5.1 (A.ret _ (x1.1,x3.1,x4.1,x5.1,x4.2.1,x4.2.2.1,A.lit 0,A.lit 0,A.lit 0,A.lit 0,()))<|
 A.l1 .b (A.cmp .eql x4.1 (A.lit 1)) fun x6=>
 A.ret _ (x1.1,x3.1,x4.1,x6.1,x4.2.1,x4.2.2.1,A.lit 0,A.lit 0,A.lit 0,A.lit 0,())) fun x6=>
 A.cond x6.2.2.2.1 (A.cl aY aZ (A.lit 64,x6.q.1,x6.q.2.1,()) fun x7=>
 A.cl aY aZ (A.lit 256,x7.2.1,x7.2.2.1,()) fun x8=>
 A.l1 (.l .i64) (A.lst .i64 [A.mkX .i64 (A.lit 0,()),A.mkX .i64 (A.lit 1,()),A.mkX .i64 (A.lit 2,()),A.mkX .i64 (x7.1,()),A.mkX .i64 (x8.1,()),A.mkX .i64 (A.lit 255,())]) fun x9=>
 A.cl aY aZ (A.lit 6,x8.2.1,x8.2.2.1,()) fun x10=>
 A.bd .i64 x9.1 x10.1<|
 A.bd .i64 x9.1 x10.1<|
 A.ret _ (A.lit 1,x6.1,A.lit 0,A.fI .i64 0 (A.get .i64 x9.1 x10.1),x10.2.1,x10.2.2.1,()))<|
 A.l1 .b (A.cmp .eql x6.2.2.1 (A.lit 2)) fun x7=>
 A.cond x7.1 (A.ret _ (A.lit 2,x6.1,x6.2.1,A.lit 0,x6.q.1,x6.q.2.1,()))<|
 A.l1 .b (A.cmp .eql x6.2.2.1 (A.lit 3)) fun x8=>
 A.bind [.i,.i,.i,.b,.l .u8,.i,.i,.i,.i,.i] (A.cond x8.1 (A.ret _ (x6.1,x6.2.1,x6.2.2.1,x8.1,x6.q.1,x6.q.2.1,x6.q.2.2.1,x6.q.2.2.2.1,x6.o.1,x6.o.2.1,()))<|
 A.l1 .b (A.cmp .eql x6.2.2.1 (A.lit 4)) fun x9=>
 A.bind [.i,.i,.i,.b,.l .u8,.i,.i,.i,.i,.i] (A.cond x9.1 (A.ret _ (x6.1,x6.2.1,x6.2.2.1,x9.1,x6.q.1,x6.q.2.1,x6.q.2.2.1,x6.q.2.2.2.1,x6.o.1,x6.o.2.1,()))<|
 A.l1 .b (A.cmp .eql x6.2.2.1 (A.lit 5)) fun x10=>
 A.ret _ (x6.1,x6.2.1,x6.2.2.1,x10.1,x6.q.1,x6.q.2.1,x6.q.2.2.1,x6.q.2.2.2.1,x6.o.1,x6.o.2.1,())) fun x10=>
 A.ret _ (x10.1,x10.2.1,x10.2.2.1,x10.2.2.2.1,x10.q.1,x10.q.2.1,x10.q.2.2.1,x10.q.2.2.2.1,x10.o.1,x10.o.2.1,())) fun x9=>
 A.cond x9.2.2.2.1 (A.cl aY aZ (A.lit 5,x9.q.1,x9.q.2.1,()) fun x10=>
 A.cl aY aZ (A.lit 4,x10.2.1,x10.2.2.1,()) fun x11=>
 A.ret _ (A.arith .add .i64 (A.lit 3) x10.1,x9.1,x9.2.1,x11.1,x11.2.1,x11.2.2.1,()))<|
 A.l1 .b (A.cmp .eql x9.2.2.1 (A.lit 6)) fun x10=>
 A.cond x10.1 (A.cl aY aZ (A.lit 16,x9.q.1,x9.q.2.1,()) fun x11=>
 A.l1 (.l .i64) (A.lst .i64 [A.mkX .i64 (A.lit 0,()),A.mkX .i64 (A.lit 1,()),A.mkX .i64 (A.lit 8,()),A.mkX .i64 (A.lit 15,()),A.mkX .i64 (x11.1,())]) fun x12=>
 A.cl aY aZ (A.lit 5,x11.2.1,x11.2.2.1,()) fun x13=>
 A.bd .i64 x12.1 x13.1<|
 A.bd .i64 x12.1 x13.1<|
 A.ret _ (A.lit 8,x9.1,x9.2.1,A.fI .i64 0 (A.get .i64 x12.1 x13.1),x13.2.1,x13.2.2.1,()))<|
 A.l1 .b (A.cmp .eql x9.2.2.1 (A.lit 7)) fun x11=>
 A.bind [.i,.i,.i,.b,.l .u8,.i,.i,.i,.i,.i] (A.cond x11.1 (A.ret _ (x9.1,x9.2.1,x9.2.2.1,x11.1,x9.q.1,x9.q.2.1,x9.q.2.2.1,x9.q.2.2.2.1,x9.o.1,x9.o.2.1,()))<|
 A.l1 .b (A.cmp .eql x9.2.2.1 (A.lit 8)) fun x12=>
 A.ret _ (x9.1,x9.2.1,x9.2.2.1,x12.1,x9.q.1,x9.q.2.1,x9.q.2.2.1,x9.q.2.2.2.1,x9.o.1,x9.o.2.1,())) fun x12=>
 A.cond x12.2.2.2.1 (A.cl aY aZ (A.lit 2,x12.q.1,x12.q.2.1,()) fun x13=>
 A.cl aY aZ (A.lit 64,x13.2.1,x13.2.2.1,()) fun x14=>
 A.l1 (.l .i64) (A.lst .i64 [A.mkX .i64 (A.lit 0,()),A.mkX .i64 (A.lit 1,()),A.mkX .i64 (x14.1,()),A.mkX .i64 (A.lit 63,()),A.mkX .i64 (A.lit 64,()),A.mkX .i64 (A.lit 255,())]) fun x15=>
 A.cl aY aZ (A.lit 6,x14.2.1,x14.2.2.1,()) fun x16=>
 A.bd .i64 x15.1 x16.1<|
 A.bd .i64 x15.1 x16.1<|
 A.ret _ (A.arith .add .i64 (A.lit 9) x13.1,x12.1,x12.2.1,A.fI .i64 0 (A.get .i64 x15.1 x16.1),x16.2.1,x16.2.2.1,()))<|
 A.l1 .b (A.cmp .eql x12.2.2.1 (A.lit 9)) fun x13=>
 A.cond x13.1 (A.cl aY aZ (A.lit 2,x12.q.1,x12.q.2.1,()) fun x14=>
 A.cl aY aZ (A.lit 20,x14.2.1,x14.2.2.1,()) fun x15=>
 A.cl aY aZ (A.lit 64,x15.2.1,x15.2.2.1,()) fun x16=>
 A.l1 (.l .i64) (A.lst .i64 [A.mkX .i64 (x15.1,()),A.mkX .i64 (x16.1,()),A.mkX .i64 (A.lit 200,())]) fun x17=>
 A.cl aY aZ (A.lit 3,x16.2.1,x16.2.2.1,()) fun x18=>
 A.bd .i64 x17.1 x18.1<|
 A.bd .i64 x17.1 x18.1<|
 A.ret _ (A.arith .add .i64 (A.lit 11) x14.1,x12.1,x12.2.1,A.fI .i64 0 (A.get .i64 x17.1 x18.1),x18.2.1,x18.2.2.1,()))<|
 A.l1 .b (A.cmp .eql x12.2.2.1 (A.lit 10)) fun x14=>
 A.cond x14.1 (A.cl aY aZ (A.lit 2,x12.q.1,x12.q.2.1,()) fun x15=>
 A.ret _ (A.arith .add .i64 (A.lit 14) x15.1,x12.1,A.lit 0,A.lit 0,x15.2.1,x15.2.2.1,()))<|
 A.l1 .b (A.cmp .eql x12.2.2.1 (A.lit 11)) fun x15=>
 A.cond x15.1 (A.cl aY aZ (A.lit 4,x12.q.1,x12.q.2.1,()) fun x16=>
 A.ret _ (A.lit 0,A.lit 0,A.lit 0,x16.1,x16.2.1,x16.2.2.1,()))<|
 A.l1 .b (A.cmp .eql x12.2.2.1 (A.lit 12)) fun x16=>
 A.cond x16.1 (A.ret _ (A.lit 13,A.lit 0,x12.2.1,A.lit 0,x12.q.1,x12.q.2.1,()))<|
 A.ret _ (A.lit 14,x12.1,A.lit 0,A.lit 0,x12.q.1,x12.q.2.1,())
def FC (A:Alg) (x:Tup A.ah [.x .ins]):Ot A AO:=
 A.l1 .b (A.bl false) fun x0=>
 A.l1 .b (A.cmp .eql (A.fI .ins 0 x.1) (A.lit 0)) fun x1=>
 A.cond x1.1 (A.rb (A.au (A.au (A.cmp .eql (A.fI .ins 1 x.1) (A.lit 0)) (A.cmp .eql (A.fI .ins 2 x.1) (A.lit 0)) (A.bl false)) (A.cmp .leq (A.fI .ins 3 x.1) (A.lit 3)) (A.bl false)))<|
 A.l1 .b (A.cmp .eql (A.fI .ins 0 x.1) (A.lit 1)) fun x2=>
 A.cond x2.1 (A.rb (A.cmp .eql (A.fI .ins 2 x.1) (A.lit 0)))<|
 A.l1 .b (A.cmp .eql (A.fI .ins 0 x.1) (A.lit 2)) fun x3=>
 A.cond x3.1 (A.rb (A.cmp .eql (A.fI .ins 3 x.1) (A.lit 0)))<|
 A.l1 .b (A.cmp .eql (A.fI .ins 0 x.1) (A.lit 3)) fun x4=>
 A.bind [.i,.b,.x .ins] (A.cond x4.1 (A.ret _ (A.fI .ins 0 x.1,x4.1,x.1,()))<|
 A.l1 .b (A.cmp .eql (A.fI .ins 0 x.1) (A.lit 4)) fun x5=>
 A.bind [.i,.b,.x .ins] (A.cond x5.1 (A.ret _ (A.fI .ins 0 x.1,x5.1,x.1,()))<|
 A.l1 .b (A.cmp .eql (A.fI .ins 0 x.1) (A.lit 5)) fun x6=>
 A.bind [.i,.b,.x .ins] (A.cond x6.1 (A.ret _ (A.fI .ins 0 x.1,x6.1,x.1,()))<|
 A.l1 .b (A.cmp .eql (A.fI .ins 0 x.1) (A.lit 6)) fun x7=>
 A.bind [.i,.b,.x .ins] (A.cond x7.1 (A.ret _ (A.fI .ins 0 x.1,x7.1,x.1,()))<|
 A.l1 .b (A.cmp .eql (A.fI .ins 0 x.1) (A.lit 7)) fun x8=>
 A.ret _ (A.fI .ins 0 x.1,x8.1,x.1,())) fun x8=>
 A.ret _ (x8.1,x8.2.1,x8.2.2.1,())) fun x7=>
 A.ret _ (x7.1,x7.2.1,x7.2.2.1,())) fun x6=>
 A.ret _ (x6.1,x6.2.1,x6.2.2.1,())) fun x5=>
 A.cond x5.2.1 (A.rb (A.cmp .lss (A.fI .ins 3 x5.2.2.1) (A.lit 4)))<|
 A.l1 .b (A.cmp .eql x5.1 (A.lit 8)) fun x6=>
 A.cond x6.1 (A.rb (A.cmp .lss (A.fI .ins 3 x5.2.2.1) (A.lit 16)))<|
 A.l1 .b (A.cmp .eql x5.1 (A.lit 13)) fun x7=>
 A.cond x7.1 (A.rb (A.au (A.cmp .eql (A.fI .ins 1 x5.2.2.1) (A.lit 0)) (A.cmp .eql (A.fI .ins 3 x5.2.2.1) (A.lit 0)) (A.bl false)))<|
 A.l1 .b (A.cmp .eql x5.1 (A.lit 14)) fun x8=>
 A.bind [.b,.x .ins] (A.cond x8.1 (A.ret _ (x8.1,x5.2.2.1,()))<|
 A.l1 .b (A.cmp .eql x5.1 (A.lit 15)) fun x9=>
 A.ret _ (x9.1,x5.2.2.1,())) fun x9=>
 A.cond x9.1 (A.rb (A.au (A.cmp .eql (A.fI .ins 2 x9.2.1) (A.lit 0)) (A.cmp .eql (A.fI .ins 3 x9.2.1) (A.lit 0)) (A.bl false)))<|
 A.rb (A.bl true)
def FD (A:Alg) (eU:Pt A eH) (eX:Ft A eH) (agw:Pt A AO) (agx:Ft A AO) (x:Tup A.ah [.x .ins]):Ot A sG:=
 A.l1 .b (A.bl false) fun x0=>
 A.cl eU eX (A.fI .ins 0 x.1,A.lit 0,A.lit 15,()) fun x1=>
 A.cg x1.1 eU eX (A.fI .ins 1 x.1,A.lit 0,A.lit 3,()) fun x2=>
 A.cg (A.au x1.1 x2.1 (A.bl false)) eU eX (A.fI .ins 2 x.1,A.lit 0,A.lit 3,()) fun x3=>
 A.cg (A.au (A.au x1.1 x2.1 (A.bl false)) x3.1 (A.bl false)) eU eX (A.fI .ins 3 x.1,A.lit 0,A.lit 255,()) fun x4=>
 A.cg (A.au (A.au (A.au x1.1 x2.1 (A.bl false)) x3.1 (A.bl false)) x4.1 (A.bl false)) agw agx (x.1,()) fun x5=>
 A.rb (A.au (A.au (A.au (A.au x1.1 x2.1 (A.bl false)) x3.1 (A.bl false)) x4.1 (A.bl false)) x5.1 (A.bl false))
def FH (A:Alg) (x:Tup A.ah [.i]):Ot A sH:=
 A.l1 .b (A.bl false) fun x0=>
 A.rb (A.au (A.au (A.cmp .eql x.1 (A.lit 11)) (A.bl true) (A.cmp .eql x.1 (A.lit 12))) (A.bl true) (A.cmp .eql x.1 (A.lit 13)))
def FJ (A:Alg) (Qo:Pt A sH) (Qp:Ft A sH) (Qq:Pt A sG) (Qr:Ft A sG) (x:Tup A.ah [.x .ins]):Ot A sI:=
 A.l1 .b (A.bl false) fun x0=>
 A.cl Qq Qr (x.1,()) fun x1=>
 A.cg (A.au x1.1 (A.cmp .neq (A.fI .ins 0 x.1) (A.lit 0)) (A.bl false)) Qo Qp (A.fI .ins 0 x.1,()) fun x2=>
 A.rb (A.au (A.au x1.1 (A.cmp .neq (A.fI .ins 0 x.1) (A.lit 0)) (A.bl false)) (A.aB x2.1) (A.bl false))
def FK (A:Alg) (agy:Pt A AL) (agz:Ft A AL) (aY:Pt A dO) (aZ:Ft A dO) (Qs:Pt A sI) (Qt:Ft A sI) (x:Tup A.ah [.l .u8,.i]):Ot A AP:=
 A.cl agy agz (x.1,x.2.1,()) fun x0=>
 A.cl Qs Qt (A.mkX .ins (x0.1,x0.2.1,x0.2.2.1,x0.2.2.2.1,()),()) fun x1=>
 A.cond (A.aB x1.1) (A.cl aY aZ (A.lit 4,x0.q.1,x0.q.2.1,()) fun x2=>
 A.ret _ (A.lit 3,x0.2.1,x0.2.2.1,x2.1,x2.2.1,x2.2.2.1,()))<|
 A.ret _ (x0.1,x0.2.1,x0.2.2.1,x0.2.2.2.1,x0.q.1,x0.q.2.1,())
def FL (A:Alg) (Xb:Pt A AP) (Xc:Ft A AP) (aY:Pt A dO) (aZ:Ft A dO) (x:Tup A.ah [.l .u8,.i]):Ot A AQ:=
 A.l1 (.l .ins) (A.lst .ins []) fun x0=>
 A.cl aY aZ (A.lit 8,x.1,x.2.1,()) fun x1=>
 A.l1 .i x1.1 fun x2=>
 A.iter [.i,.l .u8,.i,.l .ins] (fun x3=>
 A.cond (A.cmp .gtr x3.1 (A.lit 0)) (A.cl Xb Xc (x3.2.1,x3.2.2.1,()) fun x4=>
 A.l1 (.l .ins) (A.lst .ins [A.mkX .ins (x4.1,x4.2.1,x4.2.2.1,x4.2.2.2.1,())]) fun x5=>
 A.chk (A.cmp .leq (A.addN (A.len .ins x3.2.2.2.1) (A.len .ins x5.1)) (A.lit 1073741824))<|
 A.l1 (.l .ins) (A.app .ins x3.2.2.2.1 x5.1) fun x6=>
 A.l1 .i (A.arith .sub .i64 x3.1 (A.lit 1)) fun x7=>
 A.inl _ (x7.1,x4.q.1,x4.q.2.1,x6.1,()))<|
 A.inr _<|A.cl aY aZ (A.lit 3,x3.2.1,x3.2.2.1,()) fun x4=>
 A.l1 .b (A.cmp .eql x4.1 (A.lit 0)) fun x5=>
 A.cond x5.1 (A.cl aY aZ (A.lit 2,x4.2.1,x4.2.2.1,()) fun x6=>
 A.cl aY aZ (A.lit 4,x6.2.1,x6.2.2.1,()) fun x7=>
 A.cl aY aZ (A.lit 4,x7.2.1,x7.2.2.1,()) fun x8=>
 A.cl aY aZ (A.lit 64,x8.2.1,x8.2.2.1,()) fun x9=>
 A.l1 (.l .ins) (A.lst .ins [A.mkX .ins (A.arith .add .i64 (A.lit 11) x6.1,x7.1,x8.1,x9.1,())]) fun x10=>
 A.chk (A.cmp .leq (A.addN (A.len .ins x3.2.2.2.1) (A.len .ins x10.1)) (A.lit 1073741824))<|
 A.l1 (.l .ins) (A.app .ins x3.2.2.2.1 x10.1) fun x11=>
 A.ret _ (x9.2.1,x9.2.2.1,x11.1,()))<|
 A.l1 .b (A.cmp .eql x4.1 (A.lit 1)) fun x6=>
 A.cond x6.1 (A.cl aY aZ (A.lit 4,x4.2.1,x4.2.2.1,()) fun x7=>
 A.l1 (.l .ins) (A.lst .ins [A.mkX .ins (A.lit 13,A.lit 0,x7.1,A.lit 0,())]) fun x8=>
 A.chk (A.cmp .leq (A.addN (A.len .ins x3.2.2.2.1) (A.len .ins x8.1)) (A.lit 1073741824))<|
 A.l1 (.l .ins) (A.app .ins x3.2.2.2.1 x8.1) fun x9=>
 A.ret _ (x7.2.1,x7.2.2.1,x9.1,()))<|
 A.cl Xb Xc (x4.2.1,x4.2.2.1,()) fun x7=>
 A.l1 (.l .ins) (A.lst .ins [A.mkX .ins (x7.1,x7.2.1,x7.2.2.1,x7.2.2.2.1,())]) fun x8=>
 A.chk (A.cmp .leq (A.addN (A.len .ins x3.2.2.2.1) (A.len .ins x8.1)) (A.lit 1073741824))<|
 A.l1 (.l .ins) (A.app .ins x3.2.2.2.1 x8.1) fun x9=>
 A.ret _ (x7.q.1,x7.q.2.1,x9.1,())) (x2.1,x1.2.1,x1.2.2.1,x0.1,())
def FN (A:Alg) (Qo:Pt A sH) (Qp:Ft A sH) (Qq:Pt A sG) (Qr:Ft A sG) (eU:Pt A eH) (eX:Ft A eH) (Qs:Pt A sI) (Qt:Ft A sI) (x:Tup A.ah [.i,.l .ins]):Ot A AU:=
 A.l1 .b (A.bl false) fun x0=>
 A.cl eU eX (A.len .ins x.2.1,A.lit 1,A.lit 8,()) fun x1=>
 A.cg (A.aB (A.aB x1.1)) eU eX (x.1,A.lit 0,A.arith .sub .i64 (A.lit 64) (A.len .ins x.2.1),()) fun x2=>
 A.cond (A.au (A.aB x1.1) (A.bl true) (A.aB x2.1)) (A.rb (A.bl false))<|
 A.l1 .i (A.lit 0) fun x3=>
 A.iter [.l .ins,.i] (fun x4=>
 A.cond (A.cmp .lss x4.2.1 (A.len .ins x4.1)) (A.bd .ins x4.1 x4.2.1<|
 A.cl Qs Qt (A.get .ins x4.1 x4.2.1,()) fun x5=>
 A.chk (A.orB (A.aB (A.mP (A.aB x5.1) (A.aB (A.cmp .lss x4.2.1 (A.arith .sub .i64 (A.len .ins x4.1) (A.lit 1)))))) (A.cmp .leq (A.lit 0) x4.2.1))<|
 A.chk (A.orB (A.aB (A.mP (A.aB x5.1) (A.aB (A.cmp .lss x4.2.1 (A.arith .sub .i64 (A.len .ins x4.1) (A.lit 1)))))) (A.cmp .lss x4.2.1 (A.len .ins x4.1)))<|
 A.cg (A.mP (A.aB x5.1) (A.aB (A.cmp .lss x4.2.1 (A.arith .sub .i64 (A.len .ins x4.1) (A.lit 1))))) Qq Qr (A.get .ins x4.1 x4.2.1,()) fun x6=>
 A.chk (A.orB (A.aB (A.mP (A.aB x5.1) (A.aB (A.au (A.cmp .lss x4.2.1 (A.arith .sub .i64 (A.len .ins x4.1) (A.lit 1))) (A.bl true) (A.aB x6.1))))) (A.cmp .leq (A.lit 0) x4.2.1))<|
 A.chk (A.orB (A.aB (A.mP (A.aB x5.1) (A.aB (A.au (A.cmp .lss x4.2.1 (A.arith .sub .i64 (A.len .ins x4.1) (A.lit 1))) (A.bl true) (A.aB x6.1))))) (A.cmp .lss x4.2.1 (A.len .ins x4.1)))<|
 A.cg (A.mP (A.aB x5.1) (A.aB (A.au (A.cmp .lss x4.2.1 (A.arith .sub .i64 (A.len .ins x4.1) (A.lit 1))) (A.bl true) (A.aB x6.1)))) Qo Qp (A.fI .ins 0 (A.get .ins x4.1 x4.2.1),()) fun x7=>
 A.cond (A.au (A.aB x5.1) (A.au (A.au (A.cmp .lss x4.2.1 (A.arith .sub .i64 (A.len .ins x4.1) (A.lit 1))) (A.bl true) (A.aB x6.1)) (A.bl true) (A.aB x7.1)) (A.bl false)) (A.l1 .b (A.bl false) fun x8=>
 A.inr _<|A.ret _ (x8.1,()))<|
 A.l1 .i (A.arith .add .i64 x4.2.1 (A.lit 1)) fun x8=>
 A.inl _ (x4.1,x8.1,()))<|
 A.inr _<|A.rb (A.bl true)) (x.2.1,x3.1,())
def FP (A:Alg) (x:Tup A.ah [.i,.i,.i,.i,.i,.i,.x .iop,.l .iop]):Ot A iA:=
 A.l1 .i (A.lit 0) fun x0=>
 A.l1 (.l .iop) (A.lst .iop [x.q.2.2.1]) fun x1=>
 A.chk (A.cmp .leq (A.addN (A.len .iop x.q.2.2.2.1) (A.len .iop x1.1)) (A.lit 1073741824))<|
 A.l1 (.l .iop) (A.app .iop x.q.2.2.2.1 x1.1) fun x2=>
 A.l1 .i (A.arith .sub .i64 (A.len .iop x2.1) (A.lit 1)) fun x3=>
 A.ret _ (x.1,x.2.1,x.2.2.1,x.2.2.2.1,x.q.1,x.q.2.1,x3.1,x2.1,())
def FQ (A:Alg) (kL:Pt A iA) (kM:Ft A iA) (x:Tup A.ah [.i,.i,.i,.i,.i,.i,.i,.i,.l .iop]):Ot A sJ:=
 A.cl kL kM (x.1,x.2.1,x.2.2.1,x.2.2.2.1,x.q.1,x.q.2.1,A.mkX .iop (A.lit 8,x.q.2.2.2.1,A.lit 0,x.q.2.2.1,A.lit 0,()),x.o.1,()) fun x0=>
 A.l1 .i x0.q.2.2.1 fun x1=>
 A.ret _ (x0.1,x0.2.1,x0.2.2.1,x0.2.2.2.1,x0.q.1,x0.q.2.1,x0.q.2.2.2.1,())
def FR (A:Alg) (kL:Pt A iA) (kM:Ft A iA) (x:Tup A.ah [.i,.i,.i,.i,.i,.i,.i,.l .iop]):Ot A je:=
 A.l1 .i (A.lit 0) fun x0=>
 A.cl kL kM (x.1,x.2.1,x.2.2.1,x.2.2.2.1,x.q.1,x.q.2.1,A.mkX .iop (A.lit 2,A.lit 0,A.lit 0,x.q.2.2.1,A.lit 0,()),x.q.2.2.2.1,()) fun x1=>
 A.l1 .i x1.q.2.2.1 fun x2=>
 A.ret _ (x1.1,x1.2.1,x1.2.2.1,x1.2.2.2.1,x1.q.1,x1.q.2.1,x2.1,x1.q.2.2.2.1,())
def FT (A:Alg) (oF:Pt A je) (oG:Ft A je) (kL:Pt A iA) (kM:Ft A iA) (x:Tup A.ah [.i,.i,.i,.i,.i,.i,.i,.i,.x .iop,.l .iop]):Ot A sK:=
 A.l1 .i (A.lit 0) fun x0=>
 A.cl oF oG (x.1,x.2.1,x.2.2.1,x.2.2.2.1,x.q.1,x.q.2.1,x.q.2.2.2.1,x.o.2.1,()) fun x1=>
 A.l1 .i x1.q.2.2.1 fun x2=>
 A.cl kL kM (x1.1,x1.2.1,x1.2.2.1,x1.2.2.2.1,x1.q.1,x1.q.2.1,x.o.1,x1.q.2.2.2.1,()) fun x3=>
 A.l1 .i x3.q.2.2.1 fun x4=>
 A.cl kL kM (x3.1,x3.2.1,x3.2.2.1,x3.2.2.2.1,x3.q.1,x3.q.2.1,A.mkX .iop (A.lit 3,x2.1,x4.1,x.q.2.2.1,A.lit 0,()),x3.q.2.2.2.1,()) fun x5=>
 A.l1 .i x5.q.2.2.1 fun x6=>
 A.ret _ (x5.1,x5.2.1,x5.2.2.1,x5.2.2.2.1,x5.q.1,x5.q.2.1,x6.1,x5.q.2.2.2.1,())
def FU (A:Alg) (x:Tup A.ah [.i]):Ot A AV:=
 A.l1 .i (A.lit 0) fun x0=>
 A.l1 .i (A.lit 1) fun x1=>
 A.l1 .i (A.lit 0) fun x2=>
 A.iter [.i,.i,.i] (fun x3=>
 A.cond (A.cmp .lss x3.2.2.1 x3.1) (A.l1 .i (A.arith .add .i64 x3.2.1 x3.2.1) fun x4=>
 A.l1 .i (A.arith .add .i64 x3.2.2.1 (A.lit 1)) fun x5=>
 A.inl _ (x3.1,x4.1,x5.1,()))<|
 A.inr _<|A.l1 .i x3.2.1 fun x4=>
 A.ret _ (x4.1,())) (x.1,x1.1,x2.1,())
def FV (A:Alg) (oF:Pt A je) (oG:Ft A je) (kL:Pt A iA) (kM:Ft A iA) (Kz:Pt A sK) (KA:Ft A sK) (yc:Pt A sJ) (yg:Ft A sJ) (x:Tup A.ah [.i,.i,.i,.i,.i,.i,.x .ins,.i,.l .iop]):Ot A AX:=
 A.cl Kz KA (x.1,x.2.1,x.2.2.1,x.2.2.2.1,x.q.1,x.q.2.1,A.lit 1,A.fI .ins 2 x.q.2.2.1,A.mkX .iop (A.lit 1,A.lit 0,A.lit 0,A.fI .ins 3 x.q.2.2.1,A.lit 0,()),x.o.1,()) fun x0=>
 A.l1 .i x0.q.2.2.1 fun x1=>
 A.cond (A.cmp .eql (A.fI .ins 0 x.q.2.2.1) (A.lit 9)) (A.cl kL kM (x0.1,x0.2.1,x0.2.2.1,x0.2.2.2.1,x0.q.1,x0.q.2.1,A.mkX .iop (A.lit 4,x1.1,A.lit 0,A.lit 0,x.q.2.2.2.1,()),x0.q.2.2.2.1,()) fun x2=>
 A.l1 .i x2.q.2.2.1 fun x3=>
 A.cl yc yg (x2.1,x2.2.1,x2.2.2.1,x2.2.2.2.1,x2.q.1,x2.q.2.1,A.fI .ins 1 x.q.2.2.1,x3.1,x2.q.2.2.2.1,()) fun x4=>
 A.ret _ (x4.1,x4.2.1,x4.2.2.1,x4.2.2.2.1,x4.q.1,x4.q.2.1,x4.q.2.2.1,()))<|
 A.cl oF oG (x0.1,x0.2.1,x0.2.2.1,x0.2.2.2.1,x0.q.1,x0.q.2.1,A.fI .ins 1 x.q.2.2.1,x0.q.2.2.2.1,()) fun x2=>
 A.l1 .i x2.q.2.2.1 fun x3=>
 A.cl kL kM (x2.1,x2.2.1,x2.2.2.1,x2.2.2.2.1,x2.q.1,x2.q.2.1,A.mkX .iop (A.lit 5,x1.1,x3.1,A.lit 0,x.q.2.2.2.1,()),x2.q.2.2.2.1,()) fun x4=>
 A.l1 .i x4.q.2.2.1 fun x5=>
 A.ret _ (x4.1,x4.2.1,x4.2.2.1,x4.2.2.2.1,x4.q.1,x4.q.2.1,x4.q.2.2.2.1,())
def FW (A:Alg) (oF:Pt A je) (oG:Ft A je) (x:Tup A.ah [.i,.i,.i,.i,.i,.i,.x .ins,.l .iop]):Ot A AY:=
 A.cond (A.cmp .eql (A.fI .ins 0 x.q.2.2.1) (A.lit 13)) (A.cl oF oG (x.1,x.2.1,x.2.2.1,x.2.2.2.1,x.q.1,x.q.2.1,A.fI .ins 2 x.q.2.2.1,x.q.2.2.2.1,()) fun x0=>
 A.l1 .i x0.q.2.2.1 fun x1=>
 A.l1 .i (A.lit 2) fun x2=>
 A.l1 .i x1.1 fun x3=>
 A.l1 .i (A.lit 0) fun x4=>
 A.ret _ (x0.1,x0.2.1,x2.1,x3.1,x0.q.1,x4.1,x0.q.2.2.2.1,()))<|
 A.cl oF oG (x.1,x.2.1,x.2.2.1,x.2.2.2.1,x.q.1,x.q.2.1,A.fI .ins 1 x.q.2.2.1,x.q.2.2.2.1,()) fun x0=>
 A.l1 .i x0.q.2.2.1 fun x1=>
 A.cl oF oG (x0.1,x0.2.1,x0.2.2.1,x0.2.2.2.1,x0.q.1,x0.q.2.1,A.fI .ins 2 x.q.2.2.1,x0.q.2.2.2.1,()) fun x2=>
 A.l1 .i x2.q.2.2.1 fun x3=>
 A.l1 .i (A.lit 3) fun x4=>
 A.bind [.i,.i,.x .ins,.i,.i,.i,.i,.i,.i,.i,.i,.i,.i,.i,.i,.l .iop] (A.cond (A.cmp .eql (A.fI .ins 0 x.q.2.2.1) (A.lit 12)) (A.l1 .i (A.lit 4) fun x5=>
 A.ret _ (x1.1,x3.1,x.q.2.2.1,A.lit 0,A.lit 0,A.lit 0,A.lit 0,A.lit 0,A.lit 0,x2.1,x2.2.1,x5.1,x2.2.2.2.1,x2.q.1,x2.q.2.1,x2.q.2.2.2.1,()))<|
 A.ret _ (x1.1,x3.1,x.q.2.2.1,A.lit 0,A.lit 0,A.lit 0,A.lit 0,A.lit 0,A.lit 0,x2.1,x2.2.1,x4.1,x2.2.2.2.1,x2.q.1,x2.q.2.1,x2.q.2.2.2.1,())) fun x5=>
 A.l1 .i x5.1 fun x6=>
 A.l1 .i x5.2.1 fun x7=>
 A.l1 .i (A.fI .ins 3 x5.2.2.1) fun x8=>
 A.ret _ (x5.o.2.1,x5.o.2.2.1,x5.o.2.2.2.1,x6.1,x7.1,x8.1,x5.o.q.2.2.2.1,())
def FX (A:Alg) (oF:Pt A je) (oG:Ft A je) (agA:Pt A AY) (agB:Ft A AY) (kL:Pt A iA) (kM:Ft A iA) (agC:Pt A AX) (agD:Ft A AX) (Kz:Pt A sK) (KA:Ft A sK) (yc:Pt A sJ) (yg:Ft A sJ) (agE:Pt A AV) (agF:Ft A AV) (x:Tup A.ah [.i,.i,.i,.i,.i,.i,.x .ins,.i,.l .iop]):Ot A AZ:=
 A.l1 .b (A.cmp .eql (A.fI .ins 0 x.q.2.2.1) (A.lit 1)) fun x0=>
 A.cond x0.1 (A.cl kL kM (x.1,x.2.1,x.2.2.1,x.2.2.2.1,x.q.1,x.q.2.1,A.mkX .iop (A.lit 1,A.lit 0,A.lit 0,A.fI .ins 3 x.q.2.2.1,A.lit 0,()),x.o.1,()) fun x1=>
 A.l1 .i x1.q.2.2.1 fun x2=>
 A.cl yc yg (x1.1,x1.2.1,x1.2.2.1,x1.2.2.2.1,x1.q.1,x1.q.2.1,A.fI .ins 1 x.q.2.2.1,x2.1,x1.q.2.2.2.1,()) fun x3=>
 A.ret _ (x3.1,x3.2.1,x3.2.2.1,x3.2.2.2.1,x3.q.1,x3.q.2.1,x3.q.2.2.1,()))<|
 A.l1 .b (A.cmp .eql (A.fI .ins 0 x.q.2.2.1) (A.lit 2)) fun x1=>
 A.cond x1.1 (A.cl oF oG (x.1,x.2.1,x.2.2.1,x.2.2.2.1,x.q.1,x.q.2.1,A.fI .ins 2 x.q.2.2.1,x.o.1,()) fun x2=>
 A.l1 .i x2.q.2.2.1 fun x3=>
 A.cl yc yg (x2.1,x2.2.1,x2.2.2.1,x2.2.2.2.1,x2.q.1,x2.q.2.1,A.fI .ins 1 x.q.2.2.1,x3.1,x2.q.2.2.2.1,()) fun x4=>
 A.ret _ (x4.1,x4.2.1,x4.2.2.1,x4.2.2.2.1,x4.q.1,x4.q.2.1,x4.q.2.2.1,()))<|
 A.l1 .b (A.cmp .eql (A.fI .ins 0 x.q.2.2.1) (A.lit 8)) fun x2=>
 A.cond x2.1 (A.cl agE agF (A.fI .ins 3 x.q.2.2.1,()) fun x3=>
 A.cl Kz KA (x.1,x.2.1,x.2.2.1,x.2.2.2.1,x.q.1,x.q.2.1,A.lit 3,A.fI .ins 2 x.q.2.2.1,A.mkX .iop (A.lit 1,A.lit 0,A.lit 0,x3.1,A.lit 0,()),x.o.1,()) fun x4=>
 A.l1 .i x4.q.2.2.1 fun x5=>
 A.cl yc yg (x4.1,x4.2.1,x4.2.2.1,x4.2.2.2.1,x4.q.1,x4.q.2.1,A.fI .ins 1 x.q.2.2.1,x5.1,x4.q.2.2.2.1,()) fun x6=>
 A.ret _ (x6.1,x6.2.1,x6.2.2.1,x6.2.2.2.1,x6.q.1,x6.q.2.1,x6.q.2.2.1,()))<|
 A.l1 .b (A.cmp .eql (A.fI .ins 0 x.q.2.2.1) (A.lit 9)) fun x3=>
 A.bind [.i,.i,.b,.l .iop,.i,.i,.i,.i,.i,.i,.x .ins,.i,.i,.i,.i,.i,.i] (A.cond x3.1 (A.ret _ (x.q.2.2.2.1,A.fI .ins 0 x.q.2.2.1,x3.1,x.o.1,x.1,x.2.1,x.2.2.1,x.2.2.2.1,x.q.1,x.q.2.1,x.q.2.2.1,A.lit 0,A.lit 0,A.lit 0,A.lit 0,A.lit 0,A.lit 0,()))<|
 A.l1 .b (A.cmp .eql (A.fI .ins 0 x.q.2.2.1) (A.lit 10)) fun x4=>
 A.ret _ (x.q.2.2.2.1,A.fI .ins 0 x.q.2.2.1,x4.1,x.o.1,x.1,x.2.1,x.2.2.1,x.2.2.2.1,x.q.1,x.q.2.1,x.q.2.2.1,A.lit 0,A.lit 0,A.lit 0,A.lit 0,A.lit 0,A.lit 0,())) fun x4=>
 A.cond x4.2.2.1 (A.cl agC agD (x4.q.1,x4.q.2.1,x4.q.2.2.1,x4.q.2.2.2.1,x4.o.1,x4.o.2.1,x4.o.2.2.1,x4.1,x4.2.2.2.1,()) fun x5=>
 A.ret _ (x5.1,x5.2.1,x5.2.2.1,x5.2.2.2.1,x5.q.1,x5.q.2.1,x5.q.2.2.1,()))<|
 A.l1 .b (A.cmp .eql x4.2.1 (A.lit 14)) fun x5=>
 A.cond x5.1 (A.cl oF oG (x4.q.1,x4.q.2.1,x4.q.2.2.1,x4.q.2.2.2.1,x4.o.1,x4.o.2.1,A.fI .ins 1 x4.o.2.2.1,x4.2.2.2.1,()) fun x6=>
 A.l1 .i x6.q.2.2.1 fun x7=>
 A.cl kL kM (x6.1,x6.2.1,x6.2.2.1,x6.2.2.2.1,x6.q.1,x6.q.2.1,A.mkX .iop (A.lit 7,x7.1,A.lit 0,A.lit 0,x4.1,()),x6.q.2.2.2.1,()) fun x8=>
 A.l1 .i x8.q.2.2.1 fun x9=>
 A.ret _ (x8.1,x8.2.1,x8.2.2.1,x8.2.2.2.1,x8.q.1,x8.q.2.1,x8.q.2.2.2.1,()))<|
 A.l1 .b (A.cmp .eql x4.2.1 (A.lit 15)) fun x6=>
 A.cond x6.1 (A.cl kL kM (x4.q.1,x4.q.2.1,x4.q.2.2.1,x4.q.2.2.2.1,x4.o.1,x4.o.2.1,A.mkX .iop (A.lit 6,A.lit 0,A.lit 0,A.lit 0,x4.1,()),x4.2.2.2.1,()) fun x7=>
 A.l1 .i x7.q.2.2.1 fun x8=>
 A.cl yc yg (x7.1,x7.2.1,x7.2.2.1,x7.2.2.2.1,x7.q.1,x7.q.2.1,A.fI .ins 1 x4.o.2.2.1,x8.1,x7.q.2.2.2.1,()) fun x9=>
 A.ret _ (x9.1,x9.2.1,x9.2.2.1,x9.2.2.2.1,x9.q.1,x9.q.2.1,x9.q.2.2.1,()))<|
 A.l1 .b (A.cmp .eql x4.2.1 (A.lit 11)) fun x7=>
 A.bind [.b,.l .iop,.i,.i,.i,.i,.i,.i,.x .ins,.i,.i,.i,.i,.i,.i] (A.cond x7.1 (A.ret _ (x7.1,x4.2.2.2.1,x4.q.1,x4.q.2.1,x4.q.2.2.1,x4.q.2.2.2.1,x4.o.1,x4.o.2.1,x4.o.2.2.1,x4.o.2.2.2.1,x4.o.q.1,x4.o.q.2.1,x4.o.q.2.2.1,x4.o.q.2.2.2.1,x4.o.o.1,()))<|
 A.l1 .b (A.cmp .eql x4.2.1 (A.lit 12)) fun x8=>
 A.bind [.b,.l .iop,.i,.i,.i,.i,.i,.i,.x .ins,.i,.i,.i,.i,.i,.i] (A.cond x8.1 (A.ret _ (x8.1,x4.2.2.2.1,x4.q.1,x4.q.2.1,x4.q.2.2.1,x4.q.2.2.2.1,x4.o.1,x4.o.2.1,x4.o.2.2.1,x4.o.2.2.2.1,x4.o.q.1,x4.o.q.2.1,x4.o.q.2.2.1,x4.o.q.2.2.2.1,x4.o.o.1,()))<|
 A.l1 .b (A.cmp .eql x4.2.1 (A.lit 13)) fun x9=>
 A.ret _ (x9.1,x4.2.2.2.1,x4.q.1,x4.q.2.1,x4.q.2.2.1,x4.q.2.2.2.1,x4.o.1,x4.o.2.1,x4.o.2.2.1,x4.o.2.2.2.1,x4.o.q.1,x4.o.q.2.1,x4.o.q.2.2.1,x4.o.q.2.2.2.1,x4.o.o.1,())) fun x9=>
 A.ret _ (x9.1,x9.2.1,x9.2.2.1,x9.2.2.2.1,x9.q.1,x9.q.2.1,x9.q.2.2.1,x9.q.2.2.2.1,x9.o.1,x9.o.2.1,x9.o.2.2.1,x9.o.2.2.2.1,x9.o.q.1,x9.o.q.2.1,x9.o.q.2.2.1,())) fun x8=>
 A.cond x8.1 (A.cl agA agB (x8.2.2.1,x8.2.2.2.1,x8.q.1,x8.q.2.1,x8.q.2.2.1,x8.q.2.2.2.1,x8.o.1,x8.2.1,()) fun x9=>
 A.ret _ (x9.1,x9.2.1,x9.2.2.1,x9.2.2.2.1,x9.q.1,x9.q.2.1,x9.q.2.2.1,()))<|
 A.cl Kz KA (x8.2.2.1,x8.2.2.2.1,x8.q.1,x8.q.2.1,x8.q.2.2.1,x8.q.2.2.2.1,A.arith .add .i64 (A.arith .sub .i64 (A.fI .ins 0 x8.o.1) (A.lit 3)) (A.lit 1),A.fI .ins 2 x8.o.1,A.mkX .iop (A.lit 2,A.lit 0,A.lit 0,A.fI .ins 3 x8.o.1,A.lit 0,()),x8.2.1,()) fun x9=>
 A.l1 .i x9.q.2.2.1 fun x10=>
 A.cl yc yg (x9.1,x9.2.1,x9.2.2.1,x9.2.2.2.1,x9.q.1,x9.q.2.1,A.fI .ins 1 x8.o.1,x10.1,x9.q.2.2.2.1,()) fun x11=>
 A.ret _ (x11.1,x11.2.1,x11.2.2.1,x11.2.2.2.1,x11.q.1,x11.q.2.1,x11.q.2.2.1,())
def FY (A:Alg) (agG:Pt A AU) (agH:Ft A AU) (agI:Pt A AZ) (agJ:Ft A AZ) (x:Tup A.ah [.i,.l .ins]):Ot A A8:=
 A.cl agG agH (x.1,x.2.1,()) fun x0=>
 A.cond (A.aB x0.1) (A.ret _ (A.lit 0,A.lit 0,A.lit 0,A.lit 0,A.lit 0,A.lit 0,A.bX .iop,()))<|
 A.l1 .i (A.lit 0) fun x1=>
 A.iter [.l .ins,.i,.i,.i,.i,.i,.i,.i,.i,.i,.i,.i,.i,.i,.l .iop] (fun x2=>
 A.cond (A.cmp .lss x2.2.1 (A.len .ins x2.1)) (A.bd .ins x2.1 x2.2.1<|
 A.cl agI agJ (x2.o.1,x2.o.2.1,x2.o.2.2.1,x2.o.2.2.2.1,x2.o.q.1,x2.o.q.2.1,A.get .ins x2.1 x2.2.1,x2.2.1,x2.o.q.2.2.1,()) fun x3=>
 A.l1 .i (A.arith .add .i64 x2.2.1 (A.lit 1)) fun x4=>
 A.inl _ (x2.1,x4.1,x2.2.2.1,x2.2.2.2.1,x2.q.1,x2.q.2.1,x2.q.2.2.1,x2.q.2.2.2.1,x3.1,x3.2.1,x3.2.2.1,x3.2.2.2.1,x3.q.1,x3.q.2.1,x3.q.2.2.1,()))<|
 A.inr _<|A.ret _ (x2.o.1,x2.o.2.1,x2.o.2.2.1,x2.o.2.2.2.1,x2.o.q.1,x2.o.q.2.1,x2.o.q.2.2.1,())) (x.2.1,x1.1,A.lit 0,A.lit 0,A.lit 0,A.lit 0,A.lit 0,A.lit 0,x.1,A.len .ins x.2.1,A.lit 1,A.lit 0,A.lit 0,A.arith .add .i64 x.1 (A.len .ins x.2.1),A.bX .iop,())
def FZ (A:Alg) (agK:Pt A A8) (agL:Ft A A8) (agM:Pt A AJ) (agN:Ft A AJ) (Fy:Pt A lN) (Fz:Ft A lN) (aY:Pt A dO) (aZ:Ft A dO) (agO:Pt A AQ) (agP:Ft A AQ) (x:Tup A.ah [.l .u8,.i]):Ot A A9:=
 A.cl agO agP (x.1,x.2.1,()) fun x0=>
 A.cl aY aZ (A.lit 50,x0.1,x0.2.1,()) fun x1=>
 A.l1 (.l .i64) (A.lst .i64 [A.mkX .i64 (A.lit 0,()),A.mkX .i64 (A.lit 1,()),A.mkX .i64 (x1.1,()),A.mkX .i64 (A.arith .sub .i64 (A.lit 64) (A.len .ins x0.2.2.1),())]) fun x2=>
 A.cl aY aZ (A.lit 4,x1.2.1,x1.2.2.1,()) fun x3=>
 A.bd .i64 x2.1 x3.1<|
 A.bd .i64 x2.1 x3.1<|
 A.cl agK agL (A.fI .i64 0 (A.get .i64 x2.1 x3.1),x0.2.2.1,()) fun x4=>
 A.cl aY aZ (A.lit 5,x3.2.1,x3.2.2.1,()) fun x5=>
 A.l1 .b (A.cmp .eql x5.1 (A.lit 0)) fun x6=>
 A.cond x6.1 (A.cl agM agN (A.mkX .blk (x4.1,x4.2.1,x4.q.2.2.1,x4.2.2.1,x4.2.2.2.1,x4.q.1,x4.q.2.1,()),()) fun x7=>
 A.ret _ (x7.1,x7.2.1,x7.2.2.1,x7.2.2.2.1,x7.q.1,x7.q.2.1,x5.2.1,x5.2.2.1,x7.q.2.2.1,()))<|
 A.l1 .b (A.cmp .eql x5.1 (A.lit 1)) fun x7=>
 A.cond x7.1 (A.cl Fy Fz (A.mkX .blk (x4.1,x4.2.1,x4.q.2.2.1,x4.2.2.1,x4.2.2.2.1,x4.q.1,x4.q.2.1,()),()) fun x8=>
 A.ret _ (x8.1,x8.2.1,x8.2.2.1,x8.2.2.2.1,x8.q.1,x8.q.2.1,x5.2.1,x5.2.2.1,x8.q.2.2.1,()))<|
 A.ret _ (x4.1,x4.2.1,x4.2.2.1,x4.2.2.2.1,x4.q.1,x4.q.2.1,x5.2.1,x5.2.2.1,x4.q.2.2.1,())
def Xd (A:Alg) (x:Tup A.ah [.i]):Ot A Kw:=
 A.l1 .b (A.bl false) fun x0=>
 A.rb (A.cmp .neq x.1 x.1)
def Xe (A:Alg) (Xf:Pt A Kw) (Xg:Ft A Kw) (x:Tup A.ah [.i,.i]):Ot A CO:=
 A.l1 .i (A.lit 0) fun x0=>
 A.cl Xf Xg (x.1,()) fun x1=>
 A.l1 .b x1.1 fun x2=>
 A.cl Xf Xg (x.2.1,()) fun x3=>
 A.l1 .b x3.1 fun x4=>
 A.cond x2.1 (A.cond x4.1 (A.l1 .i (A.lit 0) fun x5=>
 A.ret _ (x5.1,()))<|
 A.l1 .i (A.lit (-1)) fun x5=>
 A.ret _ (x5.1,()))<|
 A.cond x4.1 (A.l1 .i (A.lit 1) fun x5=>
 A.ret _ (x5.1,()))<|
 A.cond (A.cmp .lss x.1 x.2.1) (A.l1 .i (A.lit (-1)) fun x5=>
 A.ret _ (x5.1,()))<|
 A.cond (A.cmp .gtr x.1 x.2.1) (A.l1 .i (A.lit 1) fun x5=>
 A.ret _ (x5.1,()))<|
 A.l1 .i (A.lit 0) fun x5=>
 A.ret _ (x5.1,())
def Xh (A:Alg) (x:Tup A.ah [.l .i64]):Ot A Ky:=
 A.l1 .i (A.lit 0) fun x0=>
 A.l1 .i (A.lit 0) fun x1=>
 A.iter [.i,.l .i64,.i,.i] (fun x2=>
 A.cond (A.cmp .lss x2.2.2.2.1 x2.2.2.1) (A.bd .i64 x2.2.1 x2.2.2.2.1<|
 A.l1 .i (A.fI .i64 0 (A.get .i64 x2.2.1 x2.2.2.2.1)) fun x3=>
 A.cond (A.cmp .neq x3.1 x2.1) (A.l1 .i x3.1 fun x4=>
 A.inr _<|A.ret _ (x4.1,()))<|
 A.inl _ (x2.1,x2.2.1,x2.2.2.1,A.arith .add .i64 x2.2.2.2.1 (A.lit 1),()))<|
 A.inr _<|A.l1 .i x2.1 fun x3=>
 A.ret _ (x3.1,())) (x1.1,x.1,A.len .i64 x.1,A.lit 0,())
def MV (A:Alg) (Vw:Pt A CO) (Vx:Ft A CO) (x:Tup A.ah [.l .i64,.l .i64]):Ot A Iu:=
 A.l1 .i (A.lit 0) fun x0=>
 A.iter [.l .i64,.l .i64,.l .i64,.i,.i] (fun x1=>
 A.cond (A.cmp .lss x1.q.1 x1.2.2.2.1) (A.bd .i64 x1.2.2.1 x1.q.1<|
 A.l1 .i x1.q.1 fun x2=>
 A.l1 .i (A.fI .i64 0 (A.get .i64 x1.2.2.1 x1.q.1)) fun x3=>
 A.cond (A.cmp .geq x2.1 (A.len .i64 x1.2.1)) (A.l1 .i (A.lit 1) fun x4=>
 A.inr _<|A.ret _ (x4.1,()))<|
 A.bd .i64 x1.2.1 x2.1<|
 A.l1 .i (A.fI .i64 0 (A.get .i64 x1.2.1 x2.1)) fun x4=>
 A.cl Vw Vx (x3.1,x4.1,()) fun x5=>
 A.l1 .i x5.1 fun x6=>
 A.cond (A.cmp .neq x6.1 (A.lit 0)) (A.l1 .i x6.1 fun x7=>
 A.inr _<|A.ret _ (x7.1,()))<|
 A.inl _ (x1.1,x1.2.1,x1.2.2.1,x1.2.2.2.1,A.arith .add .i64 x1.q.1 (A.lit 1),()))<|
 A.inr _<|A.cond (A.cmp .lss (A.len .i64 x1.1) (A.len .i64 x1.2.1)) (A.l1 .i (A.lit (-1)) fun x2=>
 A.ret _ (x2.1,()))<|
 A.l1 .i (A.lit 0) fun x2=>
 A.ret _ (x2.1,())) (x.1,x.2.1,x.1,A.len .i64 x.1,A.lit 0,())
def MW (A:Alg) (agQ:Pt A Ky) (agR:Ft A Ky) (Vw:Pt A CO) (Vx:Ft A CO) (akl:Pt A Iu) (akm:Ft A Iu) (x:Tup A.ah [.l .i64,.l .i64]):Ot A mW:=
 A.l1 .i (A.lit 0) fun x0=>
 A.cl Vw Vx (A.len .i64 x.1,A.len .i64 x.2.1,()) fun x1=>
 A.cl akl akm (x.1,x.2.1,()) fun x2=>
 A.l1 (.l .i64) (A.lst .i64 [A.mkX .i64 (x1.1,()),A.mkX .i64 (x2.1,())]) fun x3=>
 A.cl agQ agR (x3.1,()) fun x4=>
 A.l1 .i x4.1 fun x5=>
 A.ret _ (x5.1,())
def MX (A:Alg) (x:Tup A.ah [.i,.i,.i]):Ot A bZ:=
 A.l1 .b (A.bl false) fun x0=>
 A.rb (A.au (A.cmp .leq x.2.1 x.1) (A.cmp .leq x.1 x.2.2.1) (A.bl false))
def Xi (A:Alg) (Xf:Pt A Kw) (Xg:Ft A Kw) (x:Tup A.ah [.i,.i]):Ot A CP:=
 A.l1 .b (A.bl false) fun x0=>
 A.cl Xf Xg (x.1,()) fun x1=>
 A.cg x1.1 Xf Xg (x.2.1,()) fun x2=>
 A.rb (A.au (A.au x1.1 (A.aB x2.1) (A.bl false)) (A.bl true) (A.cmp .lss x.1 x.2.1))
def F3 (A:Alg) (Xj:Pt A CP) (Xk:Ft A CP) (x:Tup A.ah [.l .i64]):Ot A Ba:=
 A.l1 .b (A.bl false) fun x0=>
 A.l1 .i (A.arith .sub .i64 (A.len .i64 x.1) (A.lit 1)) fun x1=>
 A.iter [.l .i64,.i] (fun x2=>
 A.cond (A.cmp .gtr x2.2.1 (A.lit 0)) (A.bd .i64 x2.1 x2.2.1<|
 A.bd .i64 x2.1 (A.arith .sub .i64 x2.2.1 (A.lit 1))<|
 A.cl Xj Xk (A.fI .i64 0 (A.get .i64 x2.1 x2.2.1),A.fI .i64 0 (A.get .i64 x2.1 (A.arith .sub .i64 x2.2.1 (A.lit 1))),()) fun x3=>
 A.cond x3.1 (A.l1 .b (A.bl false) fun x4=>
 A.inr _<|A.ret _ (x4.1,()))<|
 A.l1 .i (A.arith .sub .i64 x2.2.1 (A.lit 1)) fun x4=>
 A.inl _ (x2.1,x4.1,()))<|
 A.inr _<|A.rb (A.bl true)) (x.1,x1.1,())
def MZ (A:Alg) (x:Tup A.ah [.i,.i]):Ot A Iw:=
 A.l1 .b (A.bl false) fun x0=>
 A.l1 .b (A.cmp .geq x.1 x.2.1) fun x1=>
 A.ret _ (x1.1,x.2.1,())
def F4 (A:Alg) (akn:Pt A Iw) (ako:Ft A Iw) (x:Tup A.ah [.l .i64,.i]):Ot A Bb:=
 A.l1 .i (A.lit 0) fun x0=>
 A.iter [.l .i64,.i,.i,.i] (fun x1=>
 A.cond (A.cmp .lss x1.2.2.1 x1.2.1) (A.l1 .i x1.2.2.1 fun x2=>
 A.bd .i64 x1.1 x2.1<|
 A.cl akn ako (A.fI .i64 0 (A.get .i64 x1.1 x2.1),x1.2.2.2.1,()) fun x3=>
 A.cond x3.1 (A.l1 .i x2.1 fun x4=>
 A.inr _<|A.ret _ (x4.1,x3.2.1,()))<|
 A.inl _ (x1.1,x1.2.1,A.arith .add .i64 x1.2.2.1 (A.lit 1),x3.2.1,()))<|
 A.inr _<|A.l1 .i (A.lit (-1)) fun x2=>
 A.ret _ (x2.1,x1.2.2.2.1,())) (x.1,A.len .i64 x.1,A.lit 0,x.2.1,())
def F5 (A:Alg) (agS:Pt A Bb) (agT:Ft A Bb) (x:Tup A.ah [.l .i64,.i]):Ot A Bc:=
 A.l1 .b (A.bl false) fun x0=>
 A.cl agS agT (x.1,x.2.1,()) fun x1=>
 A.l1 .b (A.cmp .geq x1.1 (A.lit 0)) fun x2=>
 A.ret _ (x2.1,x1.2.1,())
def M0 (A:Alg) (agU:Pt A Bc) (agV:Ft A Bc) (x:Tup A.ah [.x .poly,.i]):Ot A yZ:=
 A.l1 .b (A.bl false) fun x0=>
 A.iter [.l .mono,.i,.i,.i] (fun x1=>
 A.cond (A.cmp .lss x1.2.2.1 x1.2.1) (A.bd .mono x1.1 x1.2.2.1<|
 A.l1 (.x .mono) (A.get .mono x1.1 x1.2.2.1) fun x2=>
 A.cl agU agV (A.fL .mono 1 .i64 x2.1,x1.2.2.2.1,()) fun x3=>
 A.cond x3.1 (A.l1 .b (A.bl false) fun x4=>
 A.inr _<|A.ret _ (x4.1,()))<|
 A.inl _ (x1.1,x1.2.1,A.arith .add .i64 x1.2.2.1 (A.lit 1),x3.2.1,()))<|
 A.inr _<|A.rb (A.bl true)) (A.fL .poly 0 .mono x.1,A.len .mono (A.fL .poly 0 .mono x.1),A.lit 0,x.2.1,())
def M4 (A:Alg) (x:Tup A.ah [.x .mono]):Ot A Iy:=
 A.l1 .b (A.bl false) fun x0=>
 A.chk (A.orB (A.aB (A.cmp .gtr (A.len .i64 (A.fL .mono 1 .i64 x.1)) (A.lit 0))) (A.cmp .leq (A.lit 0) (A.lit 0)))<|
 A.chk (A.orB (A.aB (A.cmp .gtr (A.len .i64 (A.fL .mono 1 .i64 x.1)) (A.lit 0))) (A.cmp .lss (A.lit 0) (A.len .i64 (A.fL .mono 1 .i64 x.1))))<|
 A.rb (A.au (A.cmp .gtr (A.len .i64 (A.fL .mono 1 .i64 x.1)) (A.lit 0)) (A.cmp .lss (A.fI .i64 0 (A.get .i64 (A.fL .mono 1 .i64 x.1) (A.lit 0))) (A.lit 0)) (A.bl false))
def F6 (A:Alg) (akp:Pt A Iy) (akq:Ft A Iy) (x:Tup A.ah [.l .mono]):Ot A Bd:=
 A.l1 .i (A.lit 0) fun x0=>
 A.iter [.l .mono,.i,.i] (fun x1=>
 A.cond (A.cmp .lss x1.2.2.1 x1.2.1) (A.l1 .i x1.2.2.1 fun x2=>
 A.bd .mono x1.1 x2.1<|
 A.cl akp akq (A.get .mono x1.1 x2.1,()) fun x3=>
 A.cond x3.1 (A.l1 .i x2.1 fun x4=>
 A.inr _<|A.ret _ (x4.1,()))<|
 A.inl _ (x1.1,x1.2.1,A.arith .add .i64 x1.2.2.1 (A.lit 1),()))<|
 A.inr _<|A.l1 .i (A.lit (-1)) fun x2=>
 A.ret _ (x2.1,())) (x.1,A.len .mono x.1,A.lit 0,())
def F7 (A:Alg) (agW:Pt A Bd) (agX:Ft A Bd) (x:Tup A.ah [.l .mono]):Ot A Bf:=
 A.l1 .b (A.bl false) fun x0=>
 A.cl agW agX (x.1,()) fun x1=>
 A.rb (A.cmp .geq x1.1 (A.lit 0))
def M5 (A:Alg) (fE:Pt A bZ) (fF:Ft A bZ) (SN:Pt A yZ) (SQ:Ft A yZ) (agY:Pt A Ba) (agZ:Ft A Ba) (F8:Pt A mW) (F9:Ft A mW) (ag0:Pt A Bf) (ag1:Ft A Bf) (x:Tup A.ah [.x .poly]):Ot A iD:=
 A.l1 .b (A.bl false) fun x0=>
 A.iter [.l .mono,.i,.i,.x .poly] (fun x1=>
 A.cond (A.cmp .lss x1.2.2.1 x1.2.1) (A.bd .mono x1.1 x1.2.2.1<|
 A.l1 .i x1.2.2.1 fun x2=>
 A.l1 (.x .mono) (A.get .mono x1.1 x1.2.2.1) fun x3=>
 A.cl fE fF (A.fI .mono 0 x3.1,A.lit 1,A.lit 65535,()) fun x4=>
 A.cg (A.aB (A.au (A.aB x4.1) (A.bl true) (A.cmp .gtr (A.len .i64 (A.fL .mono 1 .i64 x3.1)) (A.lit 4)))) agY agZ (A.fL .mono 1 .i64 x3.1,()) fun x5=>
 A.chk (A.orB (A.aB (A.mP (A.aB (A.au (A.au (A.aB x4.1) (A.bl true) (A.cmp .gtr (A.len .i64 (A.fL .mono 1 .i64 x3.1)) (A.lit 4))) (A.bl true) (A.aB x5.1))) (A.cmp .gtr x2.1 (A.lit 0)))) (A.cmp .leq (A.lit 0) (A.arith .sub .i64 x2.1 (A.lit 1))))<|
 A.chk (A.orB (A.aB (A.mP (A.aB (A.au (A.au (A.aB x4.1) (A.bl true) (A.cmp .gtr (A.len .i64 (A.fL .mono 1 .i64 x3.1)) (A.lit 4))) (A.bl true) (A.aB x5.1))) (A.cmp .gtr x2.1 (A.lit 0)))) (A.cmp .lss (A.arith .sub .i64 x2.1 (A.lit 1)) (A.len .mono (A.fL .poly 0 .mono x1.2.2.2.1))))<|
 A.cg (A.mP (A.aB (A.au (A.au (A.aB x4.1) (A.bl true) (A.cmp .gtr (A.len .i64 (A.fL .mono 1 .i64 x3.1)) (A.lit 4))) (A.bl true) (A.aB x5.1))) (A.cmp .gtr x2.1 (A.lit 0))) F8 F9 (A.fL .mono 1 .i64 (A.get .mono (A.fL .poly 0 .mono x1.2.2.2.1) (A.arith .sub .i64 x2.1 (A.lit 1))),A.fL .mono 1 .i64 x3.1,()) fun x6=>
 A.cond (A.au (A.au (A.au (A.aB x4.1) (A.bl true) (A.cmp .gtr (A.len .i64 (A.fL .mono 1 .i64 x3.1)) (A.lit 4))) (A.bl true) (A.aB x5.1)) (A.bl true) (A.au (A.cmp .gtr x2.1 (A.lit 0)) (A.cmp .geq x6.1 (A.lit 0)) (A.bl false))) (A.l1 .b (A.bl false) fun x7=>
 A.inr _<|A.ret _ (x7.1,()))<|
 A.inl _ (x1.1,x1.2.1,A.arith .add .i64 x1.2.2.1 (A.lit 1),x1.2.2.2.1,()))<|
 A.inr _<|A.cg (A.cmp .leq (A.len .mono (A.fL .poly 0 .mono x1.2.2.2.1)) (A.lit 12)) SN SQ (x1.2.2.2.1,A.lit 200,()) fun x2=>
 A.cg (A.au (A.cmp .leq (A.len .mono (A.fL .poly 0 .mono x1.2.2.2.1)) (A.lit 12)) x2.1 (A.bl false)) ag0 ag1 (A.fL .poly 0 .mono x1.2.2.2.1,()) fun x3=>
 A.rb (A.au (A.au (A.cmp .leq (A.len .mono (A.fL .poly 0 .mono x1.2.2.2.1)) (A.lit 12)) x2.1 (A.bl false)) (A.aB x3.1) (A.bl false))) (A.fL .poly 0 .mono x.1,A.len .mono (A.fL .poly 0 .mono x.1),A.lit 0,x.1,())
def M6 (A:Alg) (lD:Pt A iD) (lF:Ft A iD) (x:Tup A.ah [.x .poly]):Ot A y7:=
 A.l1 .i (A.lit 0) fun x0=>
 A.l1 .b (A.bl false) fun x1=>
 A.cl lD lF (x.1,()) fun x2=>
 A.l1 .b (A.aB x2.1) fun x3=>
 A.cond x3.1 (A.l1 .i (A.lit 0) fun x4=>
 A.l1 .b (A.bl false) fun x5=>
 A.ret _ (x4.1,x5.1,()))<|
 A.l1 .b (A.cmp .eql (A.len .mono (A.fL .poly 0 .mono x.1)) (A.lit 0)) fun x4=>
 A.cond x4.1 (A.l1 .i (A.lit 0) fun x5=>
 A.l1 .b (A.bl true) fun x6=>
 A.ret _ (x5.1,x6.1,()))<|
 A.chk (A.orB (A.aB (A.cmp .eql (A.len .mono (A.fL .poly 0 .mono x.1)) (A.lit 1))) (A.cmp .leq (A.lit 0) (A.lit 0)))<|
 A.chk (A.orB (A.aB (A.cmp .eql (A.len .mono (A.fL .poly 0 .mono x.1)) (A.lit 1))) (A.cmp .lss (A.lit 0) (A.len .mono (A.fL .poly 0 .mono x.1))))<|
 A.l1 .b (A.au (A.cmp .eql (A.len .mono (A.fL .poly 0 .mono x.1)) (A.lit 1)) (A.cmp .eql (A.len .i64 (A.fL .mono 1 .i64 (A.get .mono (A.fL .poly 0 .mono x.1) (A.lit 0)))) (A.lit 0)) (A.bl false)) fun x5=>
 A.cond x5.1 (A.bd .mono (A.fL .poly 0 .mono x.1) (A.lit 0)<|
 A.l1 .i (A.fI .mono 0 (A.get .mono (A.fL .poly 0 .mono x.1) (A.lit 0))) fun x6=>
 A.l1 .b (A.bl true) fun x7=>
 A.ret _ (x6.1,x7.1,()))<|
 A.l1 .i (A.lit 0) fun x6=>
 A.l1 .b (A.bl false) fun x7=>
 A.ret _ (x6.1,x7.1,())
def M7 (A:Alg) (agQ:Pt A Ky) (agR:Ft A Ky) (Vw:Pt A CO) (Vx:Ft A CO) (F8:Pt A mW) (F9:Ft A mW) (x:Tup A.ah [.x .poly,.x .poly]):Ot A tK:=
 A.l1 .i (A.lit 0) fun x0=>
 A.cl Vw Vx (A.len .mono (A.fL .poly 0 .mono x.1),A.len .mono (A.fL .poly 0 .mono x.2.1),()) fun x1=>
 A.l1 .i x1.1 fun x2=>
 A.cond (A.cmp .neq x2.1 (A.lit 0)) (A.l1 .i x2.1 fun x3=>
 A.ret _ (x3.1,()))<|
 A.iter [.l .mono,.i,.i,.x .poly] (fun x3=>
 A.cond (A.cmp .lss x3.2.2.1 x3.2.1) (A.bd .mono x3.1 x3.2.2.1<|
 A.l1 .i x3.2.2.1 fun x4=>
 A.l1 (.x .mono) (A.get .mono x3.1 x3.2.2.1) fun x5=>
 A.bd .mono (A.fL .poly 0 .mono x3.2.2.2.1) x4.1<|
 A.bd .mono (A.fL .poly 0 .mono x3.2.2.2.1) x4.1<|
 A.cl F8 F9 (A.fL .mono 1 .i64 x5.1,A.fL .mono 1 .i64 (A.get .mono (A.fL .poly 0 .mono x3.2.2.2.1) x4.1),()) fun x6=>
 A.cl Vw Vx (A.fI .mono 0 x5.1,A.fI .mono 0 (A.get .mono (A.fL .poly 0 .mono x3.2.2.2.1) x4.1),()) fun x7=>
 A.cl agQ agR (A.lst .i64 [A.mkX .i64 (x6.1,()),A.mkX .i64 (x7.1,())],()) fun x8=>
 A.l1 .i x8.1 fun x9=>
 A.cond (A.cmp .neq x9.1 (A.lit 0)) (A.l1 .i x9.1 fun x10=>
 A.inr _<|A.ret _ (x10.1,()))<|
 A.inl _ (x3.1,x3.2.1,A.arith .add .i64 x3.2.2.1 (A.lit 1),x3.2.2.2.1,()))<|
 A.inr _<|A.l1 .i (A.lit 0) fun x4=>
 A.ret _ (x4.1,())) (A.fL .poly 0 .mono x.1,A.len .mono (A.fL .poly 0 .mono x.1),A.lit 0,x.2.1,())
def M8 (A:Alg) (x:Tup A.ah [.l .i64]):Ot A y8:=
 A.chk (A.cmp .leq (A.len .i64 x.1) (A.lit 1073741824))<|
 A.l1 (.l .i64) x.1 fun x0=>
 A.ret _ (x0.1,())
def M9 (A:Alg) (Xl:Pt A y8) (Xm:Ft A y8) (x:Tup A.ah [.x .poly]):Ot A tL:=
 A.iter [.l .mono,.i,.i,.l .mono] (fun x0=>
 A.cond (A.cmp .lss x0.2.2.1 x0.2.1) (A.bd .mono x0.1 x0.2.2.1<|
 A.l1 (.x .mono) (A.get .mono x0.1 x0.2.2.1) fun x1=>
 A.cl Xl Xm (A.fL .mono 1 .i64 x1.1,()) fun x2=>
 A.l1 (.l .mono) (A.lst .mono [A.mkX .mono (A.fI .mono 0 x1.1,x2.1,())]) fun x3=>
 A.chk (A.cmp .leq (A.addN (A.len .mono x0.2.2.2.1) (A.len .mono x3.1)) (A.lit 1073741824))<|
 A.l1 (.l .mono) (A.app .mono x0.2.2.2.1 x3.1) fun x4=>
 A.inl _ (x0.1,x0.2.1,A.arith .add .i64 x0.2.2.1 (A.lit 1),x4.1,()))<|
 A.inr _<|A.ret _ (x0.2.2.2.1,())) (A.fL .poly 0 .mono x.1,A.len .mono (A.fL .poly 0 .mono x.1),A.lit 0,A.bX .mono,())
def Na (A:Alg) (zF:Pt A tL) (zG:Ft A tL) (x:Tup A.ah [.l .poly]):Ot A Iz:=
 A.iter [.l .poly,.i,.i,.l .poly] (fun x0=>
 A.cond (A.cmp .lss x0.2.2.1 x0.2.1) (A.bd .poly x0.1 x0.2.2.1<|
 A.l1 (.x .poly) (A.get .poly x0.1 x0.2.2.1) fun x1=>
 A.cl zF zG (x1.1,()) fun x2=>
 A.l1 (.l .poly) (A.lst .poly [A.mkX .poly (x2.1,())]) fun x3=>
 A.chk (A.cmp .leq (A.addN (A.len .poly x0.2.2.2.1) (A.len .poly x3.1)) (A.lit 1073741824))<|
 A.l1 (.l .poly) (A.app .poly x0.2.2.2.1 x3.1) fun x4=>
 A.inl _ (x0.1,x0.2.1,A.arith .add .i64 x0.2.2.1 (A.lit 1),x4.1,()))<|
 A.inr _<|A.ret _ (x0.2.2.2.1,())) (x.1,A.len .poly x.1,A.lit 0,A.bX .poly,())
def Nb (A:Alg) (zF:Pt A tL) (zG:Ft A tL) (adg:Pt A Iz) (adh:Ft A Iz) (x:Tup A.ah [.x .sym]):Ot A IB:=
 A.cl adg adh (A.fL .sym 1 .poly x.1,()) fun x0=>
 A.cl zF zG (A.mkX .poly (A.fL .sym 3 .mono x.1,()),()) fun x1=>
 A.cl zF zG (A.mkX .poly (A.fL .sym 4 .mono x.1,()),()) fun x2=>
 A.iter [.l .ev,.i,.i,.i,.i,.i,.i,.l .ev,.l .poly,.l .mono,.l .mono] (fun x3=>
 A.cond (A.cmp .lss x3.2.2.1 x3.2.1) (A.bd .ev x3.1 x3.2.2.1<|
 A.l1 (.x .ev) (A.get .ev x3.1 x3.2.2.1) fun x4=>
 A.cl zF zG (A.mkX .poly (A.fL .ev 2 .mono x4.1,()),()) fun x5=>
 A.cl zF zG (A.mkX .poly (A.fL .ev 3 .mono x4.1,()),()) fun x6=>
 A.cl adg adh (A.fL .ev 4 .poly x4.1,()) fun x7=>
 A.l1 (.l .ev) (A.lst .ev [A.mkX .ev (A.fI .ev 0 x4.1,A.fI .ev 1 x4.1,x5.1,x6.1,x7.1,())]) fun x8=>
 A.chk (A.cmp .leq (A.addN (A.len .ev x3.q.2.2.2.1) (A.len .ev x8.1)) (A.lit 1073741824))<|
 A.l1 (.l .ev) (A.app .ev x3.q.2.2.2.1 x8.1) fun x9=>
 A.inl _ (x3.1,x3.2.1,A.arith .add .i64 x3.2.2.1 (A.lit 1),x3.2.2.2.1,x3.q.1,x3.q.2.1,x3.q.2.2.1,x9.1,x3.o.1,x3.o.2.1,x3.o.2.2.1,()))<|
 A.inr _<|A.ret _ (x3.q.2.1,x3.q.2.2.1,x3.q.2.2.2.1,x3.o.1,x3.o.2.1,x3.o.2.2.1,())) (A.fL .sym 0 .ev x.1,A.len .ev (A.fL .sym 0 .ev x.1),A.lit 0,A.lit 0,A.lit 0,A.fI .sym 2 x.1,A.fI .sym 5 x.1,A.bX .ev,x0.1,x1.1,x2.1,())
def Nc (A:Alg) (Ng:Pt A tK) (Nh:Ft A tK) (x:Tup A.ah [.x .poly,.x .poly]):Ot A iR:=
 A.l1 .b (A.bl false) fun x0=>
 A.cl Ng Nh (x.1,x.2.1,()) fun x1=>
 A.rb (A.cmp .eql x1.1 (A.lit 0))
def Ni (A:Alg) (fE:Pt A bZ) (fF:Ft A bZ) (x:Tup A.ah [.i]):Ot A iT:=
 A.l1 .b (A.bl false) fun x0=>
 A.cl fE fF (x.1,A.lit 0,A.lit 65535,()) fun x1=>
 A.rb x1.1
def Nj (A:Alg) (rA:Pt A iT) (rC:Ft A iT) (x:Tup A.ah [.i,.i,.i]):Ot A y9:=
 A.l1 .b (A.bl false) fun x0=>
 A.cl rA rC (x.2.1,()) fun x1=>
 A.cg x1.1 rA rC (x.2.2.1,()) fun x2=>
 A.rb (A.au (A.au x1.1 x2.1 (A.bl false)) (A.au (A.au (A.cmp .eql x.1 (A.lit 1)) (A.cmp .eql x.2.1 x.2.2.1) (A.bl false)) (A.bl true) (A.au (A.cmp .eql x.1 (A.lit 2)) (A.cmp .lss x.2.1 x.2.2.1) (A.bl false))) (A.bl false))
def Nk (A:Alg) (Nl:Pt A y7) (Nn:Ft A y7) (lD:Pt A iD) (lF:Ft A iD) (Ng:Pt A tK) (Nh:Ft A tK) (akr:Pt A IB) (aks:Ft A IB) (l5:Pt A iR) (l6:Ft A iR) (Xo:Pt A y9) (Xp:Ft A y9) (x:Tup A.ah [.x .sym,.i]):Ot A IC:=
 A.cl lD lF (A.mkX .poly (A.fL .sym 3 .mono x.1,()),()) fun x0=>
 A.cg (A.aB (A.aB x0.1)) lD lF (A.mkX .poly (A.fL .sym 4 .mono x.1,()),()) fun x1=>
 A.cond (A.au (A.aB x0.1) (A.bl true) (A.aB x1.1)) (A.ret _ (A.mkX .sym (A.bX .ev,A.bX .poly,A.lit 0,A.bX .mono,A.bX .mono,A.lit 0,()),()))<|
 A.cl akr aks (x.1,()) fun x2=>
 A.cl Nl Nn (A.mkX .poly (A.fL .sym 3 .mono x.1,()),()) fun x3=>
 A.l1 .i x3.1 fun x4=>
 A.l1 .b x3.2.1 fun x5=>
 A.cl Nl Nn (A.mkX .poly (A.fL .sym 4 .mono x.1,()),()) fun x6=>
 A.l1 .i x6.1 fun x7=>
 A.l1 .b x6.2.1 fun x8=>
 A.l1 .i (A.arith .add .i64 (A.arith .sub .i64 (A.fI .sym 2 x.1) (A.lit 3)) (A.lit 1)) fun x9=>
 A.l1 .b (A.au (A.cmp .eql (A.fI .sym 2 x.1) (A.lit 2)) x5.1 (A.bl false)) fun x10=>
 A.bind [.i,.i,.i,.i,.l .ev,.l .poly,.l .mono,.l .mono] (A.cond x10.1 (A.l1 .i (A.lit 1) fun x11=>
 A.l1 .i x4.1 fun x12=>
 A.ret _ (A.lit 0,A.lit 0,x11.1,x12.1,x2.2.2.1,x2.2.2.2.1,A.bX .mono,A.bX .mono,()))<|
 A.l1 .b (A.au (A.cmp .neq (A.fI .sym 2 x.1) (A.lit 3)) (A.cmp .neq (A.fI .sym 2 x.1) (A.lit 4)) (A.bl false)) fun x11=>
 A.bind [.i,.i,.i,.i,.l .ev,.l .poly,.l .mono,.l .mono] (A.cond x11.1 (A.ret _ (A.lit 0,A.lit 0,x2.1,x2.2.1,x2.2.2.1,x2.2.2.2.1,x2.q.1,x2.q.2.1,()))<|
 A.cl l5 l6 (A.mkX .poly (A.fL .sym 3 .mono x.1,()),A.mkX .poly (A.fL .sym 4 .mono x.1,()),()) fun x12=>
 A.l1 .b (A.au x12.1 (A.bl true) (A.au x5.1 x8.1 (A.bl false))) fun x13=>
 A.bind [.i,.i,.i,.i,.l .ev,.l .poly,.l .mono,.l .mono] (A.cond x13.1 (A.cl l5 l6 (A.mkX .poly (A.fL .sym 3 .mono x.1,()),A.mkX .poly (A.fL .sym 4 .mono x.1,()),()) fun x14=>
 A.cg (A.mP (A.aB (A.au x14.1 (A.cmp .eql (A.fI .sym 2 x.1) (A.lit 3)) (A.bl false))) (A.au x5.1 x8.1 (A.bl false))) Xo Xp (x9.1,x4.1,x7.1,()) fun x15=>
 A.l1 .b (A.au (A.au x14.1 (A.cmp .eql (A.fI .sym 2 x.1) (A.lit 3)) (A.bl false)) (A.bl true) (A.au (A.au x5.1 x8.1 (A.bl false)) x15.1 (A.bl false))) fun x16=>
 A.l1 .i (A.lit 1) fun x17=>
 A.bind [.i,.i,.i,.i,.l .ev,.l .poly] (A.cond (A.aB x16.1) (A.l1 .i x.2.1 fun x18=>
 A.ret _ (A.lit 0,A.lit 0,x17.1,x18.1,x2.2.2.1,x2.2.2.2.1,()))<|
 A.ret _ (A.lit 0,A.lit 0,x17.1,x2.2.1,x2.2.2.1,x2.2.2.2.1,())) fun x18=>
 A.ret _ (x18.1,x18.2.1,x18.2.2.1,x18.2.2.2.1,x18.q.1,x18.q.2.1,A.bX .mono,A.bX .mono,()))<|
 A.cg (A.cmp .eql (A.fI .sym 2 x.1) (A.lit 3)) Ng Nh (A.mkX .poly (A.fL .sym 3 .mono x.1,()),A.mkX .poly (A.fL .sym 4 .mono x.1,()),()) fun x14=>
 A.l1 .b (A.au (A.cmp .eql (A.fI .sym 2 x.1) (A.lit 3)) (A.cmp .gtr x14.1 (A.lit 0)) (A.bl false)) fun x15=>
 A.bind [.i,.i,.i,.i,.l .ev,.l .poly,.l .mono,.l .mono] (A.cond x15.1 (A.ret _ (A.lit 0,A.lit 0,x2.1,x2.2.1,x2.2.2.1,x2.2.2.2.1,x2.q.2.1,x2.q.1,()))<|
 A.ret _ (A.lit 0,A.lit 0,x2.1,x2.2.1,x2.2.2.1,x2.2.2.2.1,x2.q.1,x2.q.2.1,())) fun x16=>
 A.ret _ (x16.1,x16.2.1,x16.2.2.1,x16.2.2.2.1,x16.q.1,x16.q.2.1,x16.q.2.2.1,x16.q.2.2.2.1,())) fun x14=>
 A.ret _ (x14.1,x14.2.1,x14.2.2.1,x14.2.2.2.1,x14.q.1,x14.q.2.1,x14.q.2.2.1,x14.q.2.2.2.1,())) fun x12=>
 A.ret _ (x12.1,x12.2.1,x12.2.2.1,x12.2.2.2.1,x12.q.1,x12.q.2.1,x12.q.2.2.1,x12.q.2.2.2.1,())) fun x11=>
 A.ret _ (A.mkX .sym (x11.q.1,x11.q.2.1,x11.2.2.1,x11.q.2.2.1,x11.q.2.2.2.1,x11.2.2.2.1,()),())
def Np (A:Alg) (rA:Pt A iT) (rC:Ft A iT) (x:Tup A.ah []):Ot A IE:=
 A.l1 .b (A.bl false) fun x0=>
 A.cl rA rC (A.lit 1,()) fun x1=>
 A.rb x1.1
def BI (A:Alg) (aY:Pt A dO) (aZ:Ft A dO) (E8:Pt A lM) (E9:Ft A lM) (x:Tup A.ah [.x .blk,.l .u8,.i]):Ot A Bg:=
 A.cl E8 E9 (x.1,()) fun x0=>
 A.cond (A.cmp .eql (A.len .iop x0.q.2.2.1) (A.lit 0)) (A.l1 .i (A.arith .add .i64 x0.q.2.1 (A.lit 1)) fun x1=>
 A.ret _ (x0.1,x0.2.1,x0.2.2.1,x0.2.2.2.1,x0.q.1,x1.1,x.2.1,x.2.2.1,x0.q.2.2.1,()))<|
 A.cl aY aZ (A.len .iop x0.q.2.2.1,x.2.1,x.2.2.1,()) fun x1=>
 A.l1 .i x1.1 fun x2=>
 A.cl aY aZ (A.lit 9,x1.2.1,x1.2.2.1,()) fun x3=>
 A.l1 .b (A.cmp .eql x3.1 (A.lit 0)) fun x4=>
 A.bind [.l .u8,.i,.i,.i,.i,.i,.i,.i,.i,.i,.i,.i,.i,.i,.l .iop] (A.cond x4.1 (A.bd .iop x0.q.2.2.1 x2.1<|
 A.bd .iop x0.q.2.2.1 x2.1<|
 A.bd .iop x0.q.2.2.1 x2.1<|
 A.bd .iop x0.q.2.2.1 x2.1<|
 A.l1 .i (A.arith .add .i64 (A.fI .iop 3 (A.get .iop x0.q.2.2.1 x2.1)) (A.lit 1)) fun x5=>
 A.ret _ (x3.2.1,x3.2.2.1,A.lit 0,A.lit 0,A.lit 0,A.lit 0,A.lit 0,A.lit 0,x0.1,x0.2.1,x0.2.2.1,x0.2.2.2.1,x0.q.1,x0.q.2.1,A.set .iop x0.q.2.2.1 x2.1 (A.mkX .iop (A.fI .iop 0 (A.get .iop x0.q.2.2.1 x2.1),A.fI .iop 1 (A.get .iop x0.q.2.2.1 x2.1),A.fI .iop 2 (A.get .iop x0.q.2.2.1 x2.1),x5.1,A.fI .iop 4 (A.get .iop x0.q.2.2.1 x2.1),())),()))<|
 A.l1 .b (A.cmp .eql x3.1 (A.lit 1)) fun x5=>
 A.bind [.l .u8,.i,.i,.i,.i,.i,.i,.i,.i,.i,.i,.i,.i,.i,.l .iop] (A.cond x5.1 (A.cl aY aZ (A.arith .add .i64 x2.1 (A.lit 1),x3.2.1,x3.2.2.1,()) fun x6=>
 A.bd .iop x0.q.2.2.1 x2.1<|
 A.bd .iop x0.q.2.2.1 x2.1<|
 A.l1 .i x6.1 fun x7=>
 A.ret _ (x6.2.1,x6.2.2.1,A.lit 0,A.lit 0,A.lit 0,A.lit 0,A.lit 0,A.lit 0,x0.1,x0.2.1,x0.2.2.1,x0.2.2.2.1,x0.q.1,x0.q.2.1,A.set .iop x0.q.2.2.1 x2.1 (A.mkX .iop (A.fI .iop 0 (A.get .iop x0.q.2.2.1 x2.1),x7.1,A.fI .iop 2 (A.get .iop x0.q.2.2.1 x2.1),A.fI .iop 3 (A.get .iop x0.q.2.2.1 x2.1),A.fI .iop 4 (A.get .iop x0.q.2.2.1 x2.1),())),()))<|
 A.l1 .b (A.cmp .eql x3.1 (A.lit 2)) fun x6=>
 A.bind [.l .u8,.i,.i,.i,.i,.i,.i,.i,.i,.i,.i,.i,.i,.i,.l .iop] (A.cond x6.1 (A.cl aY aZ (A.arith .add .i64 x2.1 (A.lit 1),x3.2.1,x3.2.2.1,()) fun x7=>
 A.bd .iop x0.q.2.2.1 x2.1<|
 A.bd .iop x0.q.2.2.1 x2.1<|
 A.l1 .i x7.1 fun x8=>
 A.ret _ (x7.2.1,x7.2.2.1,A.lit 0,A.lit 0,A.lit 0,A.lit 0,A.lit 0,A.lit 0,x0.1,x0.2.1,x0.2.2.1,x0.2.2.2.1,x0.q.1,x0.q.2.1,A.set .iop x0.q.2.2.1 x2.1 (A.mkX .iop (A.fI .iop 0 (A.get .iop x0.q.2.2.1 x2.1),A.fI .iop 1 (A.get .iop x0.q.2.2.1 x2.1),x8.1,A.fI .iop 3 (A.get .iop x0.q.2.2.1 x2.1),A.fI .iop 4 (A.get .iop x0.q.2.2.1 x2.1),())),()))<|
 A.l1 .b (A.cmp .eql x3.1 (A.lit 3)) fun x7=>
 A.bind [.l .u8,.i,.i,.i,.i,.i,.i,.i,.i,.i,.i,.i,.i,.i,.l .iop] (A.cond x7.1 (A.cl aY aZ (A.arith .add .i64 x0.2.1 (A.lit 1),x3.2.1,x3.2.2.1,()) fun x8=>
 A.bd .iop x0.q.2.2.1 x2.1<|
 A.bd .iop x0.q.2.2.1 x2.1<|
 A.l1 .i x8.1 fun x9=>
 A.ret _ (x8.2.1,x8.2.2.1,A.lit 0,A.lit 0,A.lit 0,A.lit 0,A.lit 0,A.lit 0,x0.1,x0.2.1,x0.2.2.1,x0.2.2.2.1,x0.q.1,x0.q.2.1,A.set .iop x0.q.2.2.1 x2.1 (A.mkX .iop (A.fI .iop 0 (A.get .iop x0.q.2.2.1 x2.1),A.fI .iop 1 (A.get .iop x0.q.2.2.1 x2.1),A.fI .iop 2 (A.get .iop x0.q.2.2.1 x2.1),A.fI .iop 3 (A.get .iop x0.q.2.2.1 x2.1),x9.1,())),()))<|
 A.l1 .b (A.cmp .eql x3.1 (A.lit 4)) fun x8=>
 A.bind [.l .u8,.i,.i,.i,.i,.i,.i,.i,.i,.i,.i,.i,.i,.i,.l .iop] (A.cond x8.1 (A.cl aY aZ (A.lit 66,x3.2.1,x3.2.2.1,()) fun x9=>
 A.l1 .i x9.1 fun x10=>
 A.ret _ (x9.2.1,x9.2.2.1,A.lit 0,A.lit 0,A.lit 0,A.lit 0,A.lit 0,A.lit 0,x0.1,x0.2.1,x0.2.2.1,x0.2.2.2.1,x0.q.1,x10.1,x0.q.2.2.1,()))<|
 A.l1 .b (A.cmp .eql x3.1 (A.lit 5)) fun x9=>
 A.bind [.l .u8,.i,.i,.i,.i,.i,.i,.i,.i,.i,.i,.i,.i,.i,.l .iop] (A.cond x9.1 (A.cl aY aZ (A.lit 4,x3.2.1,x3.2.2.1,()) fun x10=>
 A.l1 .i (A.arith .add .i64 (A.lit 1) x10.1) fun x11=>
 A.ret _ (x10.2.1,x10.2.2.1,A.lit 0,A.lit 0,A.lit 0,A.lit 0,A.lit 0,A.lit 0,x0.1,x0.2.1,x11.1,x0.2.2.2.1,x0.q.1,x0.q.2.1,x0.q.2.2.1,()))<|
 A.l1 .b (A.cmp .eql x3.1 (A.lit 6)) fun x10=>
 A.bind [.l .u8,.i,.i,.i,.i,.i,.i,.i,.i,.i,.i,.i,.i,.i,.l .iop] (A.cond x10.1 (A.bind [.l .u8,.i,.i,.i,.i,.i,.i,.i,.i,.i,.i,.i,.i,.i,.l .iop] (A.cond (A.cmp .gtr x2.1 (A.lit 0)) (A.bd .iop x0.q.2.2.1 x2.1<|
 A.bd .iop x0.q.2.2.1 x2.1<|
 A.l1 (.x .iop) (A.get .iop x0.q.2.2.1 x2.1) fun x11=>
 A.bd .iop x0.q.2.2.1 (A.arith .sub .i64 x2.1 (A.lit 1))<|
 A.bd .iop x0.q.2.2.1 (A.arith .sub .i64 x2.1 (A.lit 1))<|
 A.bd .iop x0.q.2.2.1 x2.1<|
 A.bd .iop x0.q.2.2.1 x2.1<|
 A.l1 (.x .iop) (A.get .iop x0.q.2.2.1 (A.arith .sub .i64 x2.1 (A.lit 1))) fun x12=>
 A.bd .iop (A.set .iop x0.q.2.2.1 x2.1 x12.1) (A.arith .sub .i64 x2.1 (A.lit 1))<|
 A.bd .iop (A.set .iop x0.q.2.2.1 x2.1 x12.1) (A.arith .sub .i64 x2.1 (A.lit 1))<|
 A.l1 (.x .iop) x11.1 fun x13=>
 A.ret _ (x3.2.1,x3.2.2.1,A.lit 0,A.lit 0,A.lit 0,A.lit 0,A.lit 0,A.lit 0,x0.1,x0.2.1,x0.2.2.1,x0.2.2.2.1,x0.q.1,x0.q.2.1,A.set .iop (A.set .iop x0.q.2.2.1 x2.1 x12.1) (A.arith .sub .i64 x2.1 (A.lit 1)) x13.1,()))<|
 A.ret _ (x3.2.1,x3.2.2.1,A.lit 0,A.lit 0,A.lit 0,A.lit 0,A.lit 0,A.lit 0,x0.1,x0.2.1,x0.2.2.1,x0.2.2.2.1,x0.q.1,x0.q.2.1,x0.q.2.2.1,())) fun x11=>
 A.ret _ (x11.1,x11.2.1,x11.2.2.1,x11.2.2.2.1,x11.q.1,x11.q.2.1,x11.q.2.2.1,x11.q.2.2.2.1,x11.o.1,x11.o.2.1,x11.o.2.2.1,x11.o.2.2.2.1,x11.o.q.1,x11.o.q.2.1,x11.o.q.2.2.1,()))<|
 A.l1 .b (A.cmp .eql x3.1 (A.lit 7)) fun x11=>
 A.bind [.l .u8,.i,.i,.i,.i,.i,.i,.i,.i,.i,.i,.i,.i,.i,.l .iop] (A.cond x11.1 (A.cl aY aZ (A.lit 3,x3.2.1,x3.2.2.1,()) fun x12=>
 A.bd .iop x0.q.2.2.1 x2.1<|
 A.bd .iop x0.q.2.2.1 x2.1<|
 A.ret _ (x12.2.1,x12.2.2.1,A.lit 0,A.lit 0,A.lit 0,A.lit 0,A.lit 0,A.lit 0,x0.1,x0.2.1,x0.2.2.1,x0.2.2.2.1,x0.q.1,x0.q.2.1,A.set .iop x0.q.2.2.1 x2.1 (A.mkX .iop (A.lit 1,A.lit 0,A.lit 0,x12.1,A.lit 0,())),()))<|
 A.chk (A.cmp .leq (A.lit 0) (A.lit 0))<|
 A.chk (A.cmp .leq (A.lit 0) x2.1)<|
 A.chk (A.cmp .leq x2.1 (A.len .iop x0.q.2.2.1))<|
 A.chk (A.cmp .eql (A.lit 0) (A.lit 0))<|
 A.chk (A.cmp .leq (A.lit 0) (A.CG x2.1 (A.lit 0)))<|
 A.chk (A.cmp .leq (A.CG x2.1 (A.lit 0)) (A.len .iop x0.q.2.2.1))<|
 A.ret _ (x3.2.1,x3.2.2.1,A.lit 0,A.lit 0,A.lit 0,A.lit 0,A.lit 0,A.lit 0,x0.1,x0.2.1,x0.2.2.1,x0.2.2.2.1,x0.q.1,x0.q.2.1,A.sub .iop x0.q.2.2.1 (A.lit 0) (A.CG x2.1 (A.lit 0)),())) fun x12=>
 A.ret _ (x12.1,x12.2.1,x12.2.2.1,x12.2.2.2.1,x12.q.1,x12.q.2.1,x12.q.2.2.1,x12.q.2.2.2.1,x12.o.1,x12.o.2.1,x12.o.2.2.1,x12.o.2.2.2.1,x12.o.q.1,x12.o.q.2.1,x12.o.q.2.2.1,())) fun x11=>
 A.ret _ (x11.1,x11.2.1,x11.2.2.1,x11.2.2.2.1,x11.q.1,x11.q.2.1,x11.q.2.2.1,x11.q.2.2.2.1,x11.o.1,x11.o.2.1,x11.o.2.2.1,x11.o.2.2.2.1,x11.o.q.1,x11.o.q.2.1,x11.o.q.2.2.1,())) fun x10=>
 A.ret _ (x10.1,x10.2.1,x10.2.2.1,x10.2.2.2.1,x10.q.1,x10.q.2.1,x10.q.2.2.1,x10.q.2.2.2.1,x10.o.1,x10.o.2.1,x10.o.2.2.1,x10.o.2.2.2.1,x10.o.q.1,x10.o.q.2.1,x10.o.q.2.2.1,())) fun x9=>
 A.ret _ (x9.1,x9.2.1,x9.2.2.1,x9.2.2.2.1,x9.q.1,x9.q.2.1,x9.q.2.2.1,x9.q.2.2.2.1,x9.o.1,x9.o.2.1,x9.o.2.2.1,x9.o.2.2.2.1,x9.o.q.1,x9.o.q.2.1,x9.o.q.2.2.1,())) fun x8=>
 A.ret _ (x8.1,x8.2.1,x8.2.2.1,x8.2.2.2.1,x8.q.1,x8.q.2.1,x8.q.2.2.1,x8.q.2.2.2.1,x8.o.1,x8.o.2.1,x8.o.2.2.1,x8.o.2.2.2.1,x8.o.q.1,x8.o.q.2.1,x8.o.q.2.2.1,())) fun x7=>
 A.ret _ (x7.1,x7.2.1,x7.2.2.1,x7.2.2.2.1,x7.q.1,x7.q.2.1,x7.q.2.2.1,x7.q.2.2.2.1,x7.o.1,x7.o.2.1,x7.o.2.2.1,x7.o.2.2.2.1,x7.o.q.1,x7.o.q.2.1,x7.o.q.2.2.1,())) fun x6=>
 A.ret _ (x6.1,x6.2.1,x6.2.2.1,x6.2.2.2.1,x6.q.1,x6.q.2.1,x6.q.2.2.1,x6.q.2.2.2.1,x6.o.1,x6.o.2.1,x6.o.2.2.1,x6.o.2.2.2.1,x6.o.q.1,x6.o.q.2.1,x6.o.q.2.2.1,())) fun x5=>
 A.ret _ (x5.o.1,x5.o.2.1,x5.o.2.2.1,x5.o.2.2.2.1,x5.o.q.1,x5.o.q.2.1,x5.1,x5.2.1,x5.o.q.2.2.1,())
def Ga (A:Alg) (ag2:Pt A Am) (ag3:Ft A Am) (aY:Pt A dO) (aZ:Ft A dO) (ag4:Pt A Bg) (ag5:Ft A Bg) (ag6:Pt A A9) (ag7:Ft A A9) (x:Tup A.ah [.i,.l .u8,.i]):Ot A Bh:=
 A.cl ag6 ag7 (x.2.1,x.2.2.1,()) fun x0=>
 A.cl ag2 ag3 (x.1,x0.q.2.2.1,x0.q.2.2.2.1,()) fun x1=>
 A.lu [.l .u8,.i,.i,.i,.i,.i,.i,.i,.i,.i,.i,.i,.i,.i,.l .iop] (A.cond x1.1 (A.cl aY aZ (A.lit 6,x1.2.1,x1.2.2.1,()) fun x2=>
 A.l1 .b (A.cmp .eql x2.1 (A.lit 0)) fun x3=>
 A.lu [.l .u8,.i,.i,.i,.i,.i,.i,.i,.i,.i,.i,.i,.i,.i,.l .iop] (A.cond x3.1 (A.l1 (.l .i64) (A.lst .i64 [A.mkX .i64 (A.lit 0,()),A.mkX .i64 (A.lit 9,())]) fun x4=>
 A.cl aY aZ (A.lit 2,x2.2.1,x2.2.2.1,()) fun x5=>
 A.bd .i64 x4.1 x5.1<|
 A.bd .i64 x4.1 x5.1<|
 A.l1 .i (A.fI .i64 0 (A.get .i64 x4.1 x5.1)) fun x6=>
 A.inl _ (x5.2.1,x5.2.2.1,A.lit 0,A.lit 0,A.lit 0,A.lit 0,A.lit 0,A.lit 0,x0.1,x6.1,x0.2.2.1,x0.2.2.2.1,x0.q.1,x0.q.2.1,x0.o.1,()))<|
 A.l1 .b (A.cmp .eql x2.1 (A.lit 1)) fun x4=>
 A.lu [.l .u8,.i,.i,.i,.i,.i,.i,.i,.i,.i,.i,.i,.i,.i,.l .iop] (A.cond x4.1 (A.l1 (.l .i64) (A.lst .i64 [A.mkX .i64 (A.lit (-1),()),A.mkX .i64 (A.lit 64,())]) fun x5=>
 A.cl aY aZ (A.lit 2,x2.2.1,x2.2.2.1,()) fun x6=>
 A.bd .i64 x5.1 x6.1<|
 A.bd .i64 x5.1 x6.1<|
 A.l1 .i (A.fI .i64 0 (A.get .i64 x5.1 x6.1)) fun x7=>
 A.inl _ (x6.2.1,x6.2.2.1,A.lit 0,A.lit 0,A.lit 0,A.lit 0,A.lit 0,A.lit 0,x7.1,x0.2.1,x0.2.2.1,x0.2.2.2.1,x0.q.1,x0.q.2.1,x0.o.1,()))<|
 A.l1 .b (A.cmp .eql x2.1 (A.lit 2)) fun x5=>
 A.lu [.l .u8,.i,.i,.i,.i,.i,.i,.i,.i,.i,.i,.i,.i,.i,.l .iop] (A.cond x5.1 (A.iter [.l .u8,.i,.i,.i,.i,.i,.i,.i,.i,.i,.i,.i,.i,.i,.l .iop] (fun x6=>
 A.cond (A.cmp .leq (A.len .iop x6.o.q.2.2.1) (A.lit 48)) (A.l1 (.l .iop) (A.lst .iop [A.mkX .iop (A.lit 1,A.lit 0,A.lit 0,A.lit 0,A.lit 0,())]) fun x7=>
 A.chk (A.cmp .leq (A.addN (A.len .iop x6.o.q.2.2.1) (A.len .iop x7.1)) (A.lit 1073741824))<|
 A.l1 (.l .iop) (A.app .iop x6.o.q.2.2.1 x7.1) fun x8=>
 A.inl _ (x6.1,x6.2.1,x6.2.2.1,x6.2.2.2.1,x6.q.1,x6.q.2.1,x6.q.2.2.1,x6.q.2.2.2.1,x6.o.1,x6.o.2.1,x6.o.2.2.1,x6.o.2.2.2.1,x6.o.q.1,x6.o.q.2.1,x8.1,()))<|
 A.inr _<|A.inl _ (x6.1,x6.2.1,x6.2.2.1,x6.2.2.2.1,x6.q.1,x6.q.2.1,x6.q.2.2.1,x6.q.2.2.2.1,x6.o.1,x6.o.2.1,x6.o.2.2.1,x6.o.2.2.2.1,x6.o.q.1,x6.o.q.2.1,x6.o.q.2.2.1,())) (x2.2.1,x2.2.2.1,A.lit 0,A.lit 0,A.lit 0,A.lit 0,A.lit 0,A.lit 0,x0.1,x0.2.1,x0.2.2.1,x0.2.2.2.1,x0.q.1,x0.q.2.1,x0.o.1,()))<|
 A.l1 .b (A.cmp .eql x2.1 (A.lit 3)) fun x6=>
 A.lu [.l .u8,.i,.i,.i,.i,.i,.i,.i,.i,.i,.i,.i,.i,.i,.l .iop] (A.cond x6.1 (A.l1 (.l .i64) (A.lst .i64 [A.mkX .i64 (A.lit 0,()),A.mkX .i64 (A.lit 5,())]) fun x7=>
 A.cl aY aZ (A.lit 2,x2.2.1,x2.2.2.1,()) fun x8=>
 A.bd .i64 x7.1 x8.1<|
 A.bd .i64 x7.1 x8.1<|
 A.l1 .i (A.fI .i64 0 (A.get .i64 x7.1 x8.1)) fun x9=>
 A.inl _ (x8.2.1,x8.2.2.1,A.lit 0,A.lit 0,A.lit 0,A.lit 0,A.lit 0,A.lit 0,x0.1,x0.2.1,x9.1,x0.2.2.2.1,x0.q.1,x0.q.2.1,x0.o.1,()))<|
 A.l1 .b (A.cmp .eql x2.1 (A.lit 4)) fun x7=>
 A.cond x7.1 (A.cl aY aZ (A.lit 3,x2.2.1,x2.2.2.1,()) fun x8=>
 A.bd .i64 (A.lst .i64 [A.mkX .i64 (A.lit 0,()),A.mkX .i64 (A.lit 9,()),A.mkX .i64 (A.lit 8,())]) x8.1<|
 A.chk (A.cmp .leq (A.addN (A.len .iop x0.o.1) (A.len .iop (A.lst .iop [A.mkX .iop (A.fI .i64 0 (A.get .i64 (A.lst .i64 [A.mkX .i64 (A.lit 0,()),A.mkX .i64 (A.lit 9,()),A.mkX .i64 (A.lit 8,())]) x8.1),A.len .iop x0.o.1,A.lit 0,A.lit 0,A.lit 0,())]))) (A.lit 1073741824))<|
 A.l1 (.l .iop) (A.app .iop x0.o.1 (A.lst .iop [A.mkX .iop (A.fI .i64 0 (A.get .i64 (A.lst .i64 [A.mkX .i64 (A.lit 0,()),A.mkX .i64 (A.lit 9,()),A.mkX .i64 (A.lit 8,())]) x8.1),A.len .iop x0.o.1,A.lit 0,A.lit 0,A.lit 0,())])) fun x9=>
 A.inl _ (x8.2.1,x8.2.2.1,A.lit 0,A.lit 0,A.lit 0,A.lit 0,A.lit 0,A.lit 0,x0.1,x0.2.1,x0.2.2.1,x0.2.2.2.1,x0.q.1,x0.q.2.1,x9.1,()))<|
 A.cl ag4 ag5 (A.mkX .blk (x0.1,x0.2.1,x0.o.1,x0.2.2.1,x0.2.2.2.1,x0.q.1,x0.q.2.1,()),x2.2.1,x2.2.2.1,()) fun x8=>
 A.inr _<|A.inr _<|A.inr _<|A.inr _<|A.inr _<|A.ret _ (A.mkX .blk (x8.1,x8.2.1,x8.o.1,x8.2.2.1,x8.2.2.2.1,x8.q.1,x8.q.2.1,()),x8.q.2.2.1,x8.q.2.2.2.1,())) fun x7=>
 A.inl _ (x7.1,x7.2.1,x7.2.2.1,x7.2.2.2.1,x7.q.1,x7.q.2.1,x7.q.2.2.1,x7.q.2.2.2.1,x7.o.1,x7.o.2.1,x7.o.2.2.1,x7.o.2.2.2.1,x7.o.q.1,x7.o.q.2.1,x7.o.q.2.2.1,())) fun x6=>
 A.inl _ (x6.1,x6.2.1,x6.2.2.1,x6.2.2.2.1,x6.q.1,x6.q.2.1,x6.q.2.2.1,x6.q.2.2.2.1,x6.o.1,x6.o.2.1,x6.o.2.2.1,x6.o.2.2.2.1,x6.o.q.1,x6.o.q.2.1,x6.o.q.2.2.1,())) fun x5=>
 A.inl _ (x5.1,x5.2.1,x5.2.2.1,x5.2.2.2.1,x5.q.1,x5.q.2.1,x5.q.2.2.1,x5.q.2.2.2.1,x5.o.1,x5.o.2.1,x5.o.2.2.1,x5.o.2.2.2.1,x5.o.q.1,x5.o.q.2.1,x5.o.q.2.2.1,())) fun x4=>
 A.inl _ (x4.1,x4.2.1,x4.2.2.1,x4.2.2.2.1,x4.q.1,x4.q.2.1,x4.q.2.2.1,x4.q.2.2.2.1,x4.o.1,x4.o.2.1,x4.o.2.2.1,x4.o.2.2.2.1,x4.o.q.1,x4.o.q.2.1,x4.o.q.2.2.1,()))<|
 A.inl _ (x1.2.1,x1.2.2.1,A.lit 0,A.lit 0,A.lit 0,A.lit 0,A.lit 0,A.lit 0,x0.1,x0.2.1,x0.2.2.1,x0.2.2.2.1,x0.q.1,x0.q.2.1,x0.o.1,())) fun x2=>
 A.ret _ (A.mkX .blk (x2.o.1,x2.o.2.1,x2.o.q.2.2.1,x2.o.2.2.1,x2.o.2.2.2.1,x2.o.q.1,x2.o.q.2.1,()),x2.1,x2.2.1,())
def Nq (A:Alg) (fE:Pt A bZ) (fF:Ft A bZ) (x:Tup A.ah [.i]):Ot A za:=
 A.l1 .b (A.bl false) fun x0=>
 A.cl fE fF (x.1,A.lit 1,A.lit 5,()) fun x1=>
 A.rb x1.1
def Nr (A:Alg) (fE:Pt A bZ) (fF:Ft A bZ) (x:Tup A.ah [.i]):Ot A ze:=
 A.l1 .b (A.bl false) fun x0=>
 A.cl fE fF (x.1,A.lit 0,A.lit 3,()) fun x1=>
 A.rb x1.1
def Ns (A:Alg) (fE:Pt A bZ) (fF:Ft A bZ) (Xq:Pt A za) (Xr:Ft A za) (SN:Pt A yZ) (SQ:Ft A yZ) (lD:Pt A iD) (lF:Ft A iD) (SX:Pt A ze) (SY:Ft A ze) (x:Tup A.ah [.x .atom,.i]):Ot A zf:=
 A.l1 .b (A.bl false) fun x0=>
 A.cond (A.cmp .eql (A.fI .atom 0 x.1) (A.lit 4)) (A.cl Xq Xr (A.fI .atom 1 x.1,()) fun x1=>
 A.cg x1.1 lD lF (A.mkX .poly (A.fL .atom 2 .mono x.1,()),()) fun x2=>
 A.cg (A.au x1.1 x2.1 (A.bl false)) lD lF (A.mkX .poly (A.fL .atom 3 .mono x.1,()),()) fun x3=>
 A.cg (A.au (A.au x1.1 x2.1 (A.bl false)) x3.1 (A.bl false)) SN SQ (A.mkX .poly (A.fL .atom 2 .mono x.1,()),x.2.1,()) fun x4=>
 A.cg (A.au (A.au (A.au x1.1 x2.1 (A.bl false)) x3.1 (A.bl false)) x4.1 (A.bl false)) SN SQ (A.mkX .poly (A.fL .atom 3 .mono x.1,()),x.2.1,()) fun x5=>
 A.rb (A.au (A.au (A.au (A.au x1.1 x2.1 (A.bl false)) x3.1 (A.bl false)) x4.1 (A.bl false)) x5.1 (A.bl false)))<|
 A.cond (A.cmp .gtr (A.arith .add .i64 (A.len .mono (A.fL .atom 2 .mono x.1)) (A.len .mono (A.fL .atom 3 .mono x.1))) (A.lit 0)) (A.rb (A.bl false))<|
 A.cg (A.cmp .eql (A.fI .atom 0 x.1) (A.lit 1)) SX SY (A.fI .atom 1 x.1,()) fun x1=>
 A.cg (A.mP (A.aB (A.au (A.cmp .eql (A.fI .atom 0 x.1) (A.lit 1)) x1.1 (A.bl false))) (A.au (A.cmp .eql (A.fI .atom 0 x.1) (A.lit 2)) (A.bl true) (A.cmp .eql (A.fI .atom 0 x.1) (A.lit 3)))) fE fF (A.fI .atom 1 x.1,A.lit 0,A.lit 199,()) fun x2=>
 A.rb (A.au (A.au (A.cmp .eql (A.fI .atom 0 x.1) (A.lit 1)) x1.1 (A.bl false)) (A.bl true) (A.au (A.au (A.cmp .eql (A.fI .atom 0 x.1) (A.lit 2)) (A.bl true) (A.cmp .eql (A.fI .atom 0 x.1) (A.lit 3))) x2.1 (A.bl false)))
def Nt (A:Alg) (l5:Pt A iR) (l6:Ft A iR) (x:Tup A.ah [.x .atom,.x .atom]):Ot A IG:=
 A.l1 .b (A.bl false) fun x0=>
 A.cg (A.au (A.cmp .eql (A.fI .atom 0 x.1) (A.fI .atom 0 x.2.1)) (A.cmp .eql (A.fI .atom 1 x.1) (A.fI .atom 1 x.2.1)) (A.bl false)) l5 l6 (A.mkX .poly (A.fL .atom 2 .mono x.1,()),A.mkX .poly (A.fL .atom 2 .mono x.2.1,()),()) fun x1=>
 A.cg (A.au (A.au (A.cmp .eql (A.fI .atom 0 x.1) (A.fI .atom 0 x.2.1)) (A.cmp .eql (A.fI .atom 1 x.1) (A.fI .atom 1 x.2.1)) (A.bl false)) x1.1 (A.bl false)) l5 l6 (A.mkX .poly (A.fL .atom 3 .mono x.1,()),A.mkX .poly (A.fL .atom 3 .mono x.2.1,()),()) fun x2=>
 A.rb (A.au (A.au (A.au (A.cmp .eql (A.fI .atom 0 x.1) (A.fI .atom 0 x.2.1)) (A.cmp .eql (A.fI .atom 1 x.1) (A.fI .atom 1 x.2.1)) (A.bl false)) x1.1 (A.bl false)) x2.1 (A.bl false))
def Nu (A:Alg) (akt:Pt A IG) (aku:Ft A IG) (x:Tup A.ah [.x .atom,.x .atom]):Ot A II:=
 A.l1 .b (A.bl false) fun x0=>
 A.cl akt aku (x.2.1,x.1,()) fun x1=>
 A.l1 .b x1.1 fun x2=>
 A.ret _ (x2.1,x.2.1,())
def Gb (A:Alg) (akv:Pt A II) (akw:Ft A II) (x:Tup A.ah [.l .atom,.x .atom]):Ot A Bj:=
 A.l1 .i (A.lit 0) fun x0=>
 A.iter [.l .atom,.i,.i,.x .atom] (fun x1=>
 A.cond (A.cmp .lss x1.2.2.1 x1.2.1) (A.l1 .i x1.2.2.1 fun x2=>
 A.bd .atom x1.1 x2.1<|
 A.cl akv akw (A.get .atom x1.1 x2.1,x1.2.2.2.1,()) fun x3=>
 A.cond x3.1 (A.l1 .i x2.1 fun x4=>
 A.inr _<|A.ret _ (x4.1,x3.2.1,()))<|
 A.inl _ (x1.1,x1.2.1,A.arith .add .i64 x1.2.2.1 (A.lit 1),x3.2.1,()))<|
 A.inr _<|A.l1 .i (A.lit (-1)) fun x2=>
 A.ret _ (x2.1,x1.2.2.2.1,())) (x.1,A.len .atom x.1,A.lit 0,x.2.1,())
def Nv (A:Alg) (ag8:Pt A Bj) (ag9:Ft A Bj) (x:Tup A.ah [.x .tab,.x .atom]):Ot A zh:=
 A.l1 .i (A.lit 0) fun x0=>
 A.cl ag8 ag9 (A.fL .tab 0 .atom x.1,x.2.1,()) fun x1=>
 A.l1 .i x1.1 fun x2=>
 A.ret _ (x2.1,())
def Nw (A:Alg) (Xt:Pt A zf) (Xu:Ft A zf) (Xv:Pt A zh) (Xw:Ft A zh) (x:Tup A.ah [.x .tab]):Ot A IJ:=
 A.l1 .b (A.bl false) fun x0=>
 A.iter [.l .atom,.i,.i,.x .tab] (fun x1=>
 A.cond (A.cmp .lss x1.2.2.1 x1.2.1) (A.bd .atom x1.1 x1.2.2.1<|
 A.l1 .i x1.2.2.1 fun x2=>
 A.l1 (.x .atom) (A.get .atom x1.1 x1.2.2.1) fun x3=>
 A.cl Xt Xu (x3.1,x2.1,()) fun x4=>
 A.cg (A.aB (A.aB x4.1)) Xv Xw (x1.2.2.2.1,x3.1,()) fun x5=>
 A.cond (A.au (A.aB x4.1) (A.bl true) (A.cmp .neq x5.1 x2.1)) (A.l1 .b (A.bl false) fun x6=>
 A.inr _<|A.ret _ (x6.1,()))<|
 A.inl _ (x1.1,x1.2.1,A.arith .add .i64 x1.2.2.1 (A.lit 1),x1.2.2.2.1,()))<|
 A.inr _<|A.rb (A.cmp .leq (A.len .atom (A.fL .tab 0 .atom x1.2.2.2.1)) (A.lit 200))) (A.fL .tab 0 .atom x.1,A.len .atom (A.fL .tab 0 .atom x.1),A.lit 0,x.1,())
def Ny (A:Alg) (fE:Pt A bZ) (fF:Ft A bZ) (x:Tup A.ah [.x .iop]):Ot A zi:=
 A.l1 .b (A.bl false) fun x0=>
 A.l1 .b (A.bl false) fun x1=>
 A.l1 .b (A.bl false) fun x2=>
 A.l1 .b (A.bl false) fun x3=>
 A.l1 .b (A.au (A.au (A.cmp .neq (A.fI .iop 0 x.1) (A.lit 1)) (A.cmp .neq (A.fI .iop 0 x.1) (A.lit 2)) (A.bl false)) (A.cmp .neq (A.fI .iop 0 x.1) (A.lit 6)) (A.bl false)) fun x4=>
 A.l1 .b (A.au (A.cmp .eql (A.fI .iop 0 x.1) (A.lit 3)) (A.bl true) (A.cmp .eql (A.fI .iop 0 x.1) (A.lit 5))) fun x5=>
 A.l1 .b (A.au (A.au (A.au (A.cmp .eql (A.fI .iop 0 x.1) (A.lit 1)) (A.bl true) (A.cmp .eql (A.fI .iop 0 x.1) (A.lit 2))) (A.bl true) (A.cmp .eql (A.fI .iop 0 x.1) (A.lit 3))) (A.bl true) (A.cmp .eql (A.fI .iop 0 x.1) (A.lit 8))) fun x6=>
 A.cl fE fF (A.fI .iop 0 x.1,A.lit 4,A.lit 7,()) fun x7=>
 A.l1 .b x7.1 fun x8=>
 A.l1 .b x4.1 fun x9=>
 A.l1 .b x5.1 fun x10=>
 A.l1 .b x6.1 fun x11=>
 A.l1 .b x8.1 fun x12=>
 A.ret _ (x9.1,x10.1,x11.1,x12.1,())
def Nz (A:Alg) (fE:Pt A bZ) (fF:Ft A bZ) (x:Tup A.ah [.x .iop]):Ot A IK:=
 A.l1 .b (A.bl false) fun x0=>
 A.cl fE fF (A.fI .iop 0 x.1,A.lit 1,A.lit 4,()) fun x1=>
 A.rb (A.au x1.1 (A.bl true) (A.cmp .eql (A.fI .iop 0 x.1) (A.lit 6)))
def NA (A:Alg) (akx:Pt A IK) (aky:Ft A IK) (fE:Pt A bZ) (fF:Ft A bZ) (x:Tup A.ah [.x .blk,.i,.i]):Ot A zk:=
 A.l1 .b (A.bl false) fun x0=>
 A.cl fE fF (x.2.1,A.lit 0,A.arith .sub .i64 x.2.2.1 (A.lit 1),()) fun x1=>
 A.chk (A.orB (A.aB x1.1) (A.cmp .leq (A.lit 0) x.2.1))<|
 A.chk (A.orB (A.aB x1.1) (A.cmp .lss x.2.1 (A.len .iop (A.fL .blk 2 .iop x.1))))<|
 A.cg x1.1 akx aky (A.get .iop (A.fL .blk 2 .iop x.1) x.2.1,()) fun x2=>
 A.rb (A.au x1.1 x2.1 (A.bl false))
def NC (A:Alg) (ND:Pt A zk) (NG:Ft A zk) (Xx:Pt A zi) (Xy:Ft A zi) (rA:Pt A iT) (rC:Ft A iT) (fE:Pt A bZ) (fF:Ft A bZ) (Xq:Pt A za) (Xr:Ft A za) (SX:Pt A ze) (SY:Ft A ze) (x:Tup A.ah [.x .blk,.i]):Ot A IL:=
 A.l1 .b (A.bl false) fun x0=>
 A.bd .iop (A.fL .blk 2 .iop x.1) x.2.1<|
 A.l1 (.x .iop) (A.get .iop (A.fL .blk 2 .iop x.1) x.2.1) fun x1=>
 A.cl fE fF (A.fI .iop 0 x1.1,A.lit 1,A.lit 8,()) fun x2=>
 A.cond (A.aB x2.1) (A.rb (A.bl false))<|
 A.cl Xx Xy (x1.1,()) fun x3=>
 A.l1 .b x3.1 fun x4=>
 A.l1 .b x3.2.1 fun x5=>
 A.l1 .b x3.2.2.1 fun x6=>
 A.l1 .b x3.2.2.2.1 fun x7=>
 A.cl rA rC (A.fI .iop 3 x1.1,()) fun x8=>
 A.cl SX SY (A.fI .iop 3 x1.1,()) fun x9=>
 A.cl Xq Xr (A.fI .iop 3 x1.1,()) fun x10=>
 A.cl SX SY (A.fI .iop 3 x1.1,()) fun x11=>
 A.l1 .b (A.au (A.cmp .eql (A.fI .iop 0 x1.1) (A.lit 1)) x8.1 (A.au (A.cmp .eql (A.fI .iop 0 x1.1) (A.lit 2)) x9.1 (A.au (A.cmp .eql (A.fI .iop 0 x1.1) (A.lit 3)) x10.1 (A.au (A.cmp .eql (A.fI .iop 0 x1.1) (A.lit 8)) x11.1 (A.bl false))))) fun x12=>
 A.cg x4.1 ND NG (x.1,A.fI .iop 1 x1.1,x.2.1,()) fun x13=>
 A.cg (A.mP (A.au (A.au x4.1 x13.1 (A.bl false)) (A.bl true) (A.au (A.aB x4.1) (A.cmp .eql (A.fI .iop 1 x1.1) (A.lit 0)) (A.bl false))) x5.1) ND NG (x.1,A.fI .iop 2 x1.1,x.2.1,()) fun x14=>
 A.cg (A.mP (A.au (A.au (A.au (A.au x4.1 x13.1 (A.bl false)) (A.bl true) (A.au (A.aB x4.1) (A.cmp .eql (A.fI .iop 1 x1.1) (A.lit 0)) (A.bl false))) (A.au (A.au x5.1 x14.1 (A.bl false)) (A.bl true) (A.au (A.aB x5.1) (A.cmp .eql (A.fI .iop 2 x1.1) (A.lit 0)) (A.bl false))) (A.bl false)) (A.au (A.au x6.1 x12.1 (A.bl false)) (A.bl true) (A.au (A.aB x6.1) (A.cmp .eql (A.fI .iop 3 x1.1) (A.lit 0)) (A.bl false))) (A.bl false)) x7.1) fE fF (A.fI .iop 4 x1.1,A.lit 0,A.arith .sub .i64 (A.fI .blk 1 x.1) (A.lit 1),()) fun x15=>
 A.rb (A.au (A.au (A.au (A.au (A.au x4.1 x13.1 (A.bl false)) (A.bl true) (A.au (A.aB x4.1) (A.cmp .eql (A.fI .iop 1 x1.1) (A.lit 0)) (A.bl false))) (A.au (A.au x5.1 x14.1 (A.bl false)) (A.bl true) (A.au (A.aB x5.1) (A.cmp .eql (A.fI .iop 2 x1.1) (A.lit 0)) (A.bl false))) (A.bl false)) (A.au (A.au x6.1 x12.1 (A.bl false)) (A.bl true) (A.au (A.aB x6.1) (A.cmp .eql (A.fI .iop 3 x1.1) (A.lit 0)) (A.bl false))) (A.bl false)) (A.au (A.au x7.1 x15.1 (A.bl false)) (A.bl true) (A.au (A.aB x7.1) (A.cmp .eql (A.fI .iop 4 x1.1) (A.lit 0)) (A.bl false))) (A.bl false))
def NH (A:Alg) (x:Tup A.ah [.x .blk]):Ot A zl:=
 A.l1 .b (A.bl false) fun x0=>
 A.l1 .b (A.bl false) fun x1=>
 A.l1 .b (A.bl false) fun x2=>
 A.l1 .b (A.cmp .neq (A.fI .blk 3 x.1) (A.lit 1)) fun x3=>
 A.l1 .b (A.cmp .geq (A.fI .blk 3 x.1) (A.lit 3)) fun x4=>
 A.l1 .b (A.cmp .neq (A.fI .blk 3 x.1) (A.lit 2)) fun x5=>
 A.ret _ (x3.1,x4.1,x5.1,())
def NI (A:Alg) (Xz:Pt A zl) (XA:Ft A zl) (ND:Pt A zk) (NG:Ft A zk) (rA:Pt A iT) (rC:Ft A iT) (fE:Pt A bZ) (fF:Ft A bZ) (x:Tup A.ah [.x .blk]):Ot A IQ:=
 A.l1 .b (A.bl false) fun x0=>
 A.cl Xz XA (x.1,()) fun x1=>
 A.l1 .b x1.1 fun x2=>
 A.l1 .b x1.2.1 fun x3=>
 A.l1 .b x1.2.2.1 fun x4=>
 A.cl fE fF (A.fI .blk 3 x.1,A.lit 1,A.lit 4,()) fun x5=>
 A.cg (A.mP x5.1 x2.1) ND NG (x.1,A.fI .blk 4 x.1,A.len .iop (A.fL .blk 2 .iop x.1),()) fun x6=>
 A.cg (A.mP (A.au x5.1 (A.au (A.au x2.1 x6.1 (A.bl false)) (A.bl true) (A.au (A.aB x2.1) (A.cmp .eql (A.fI .blk 4 x.1) (A.lit 0)) (A.bl false))) (A.bl false)) x3.1) ND NG (x.1,A.fI .blk 5 x.1,A.len .iop (A.fL .blk 2 .iop x.1),()) fun x7=>
 A.cg (A.mP (A.au (A.au x5.1 (A.au (A.au x2.1 x6.1 (A.bl false)) (A.bl true) (A.au (A.aB x2.1) (A.cmp .eql (A.fI .blk 4 x.1) (A.lit 0)) (A.bl false))) (A.bl false)) (A.au (A.au x3.1 x7.1 (A.bl false)) (A.bl true) (A.au (A.aB x3.1) (A.cmp .eql (A.fI .blk 5 x.1) (A.lit 0)) (A.bl false))) (A.bl false)) x4.1) rA rC (A.fI .blk 6 x.1,()) fun x8=>
 A.rb (A.au (A.au (A.au x5.1 (A.au (A.au x2.1 x6.1 (A.bl false)) (A.bl true) (A.au (A.aB x2.1) (A.cmp .eql (A.fI .blk 4 x.1) (A.lit 0)) (A.bl false))) (A.bl false)) (A.au (A.au x3.1 x7.1 (A.bl false)) (A.bl true) (A.au (A.aB x3.1) (A.cmp .eql (A.fI .blk 5 x.1) (A.lit 0)) (A.bl false))) (A.bl false)) (A.au (A.au x4.1 x8.1 (A.bl false)) (A.bl true) (A.au (A.aB x4.1) (A.cmp .eql (A.fI .blk 6 x.1) (A.lit 0)) (A.bl false))) (A.bl false))
def NJ (A:Alg) (akz:Pt A IQ) (akA:Ft A IQ) (akB:Pt A IL) (akC:Ft A IL) (fE:Pt A bZ) (fF:Ft A bZ) (x:Tup A.ah [.x .blk]):Ot A tN:=
 A.l1 .b (A.bl false) fun x0=>
 A.cl fE fF (A.fI .blk 1 x.1,A.lit 1,A.lit 8,()) fun x1=>
 A.cg (A.aB (A.aB x1.1)) fE fF (A.fI .blk 0 x.1,A.lit 0,A.arith .sub .i64 (A.lit 64) (A.fI .blk 1 x.1),()) fun x2=>
 A.cond (A.au (A.au (A.aB x1.1) (A.bl true) (A.aB x2.1)) (A.bl true) (A.cmp .gtr (A.len .iop (A.fL .blk 2 .iop x.1)) (A.lit 48))) (A.rb (A.bl false))<|
 A.iter [.i,.i,.x .blk] (fun x3=>
 A.cond (A.cmp .lss x3.2.1 x3.1) (A.l1 .i x3.2.1 fun x4=>
 A.cl akB akC (x3.2.2.1,x4.1,()) fun x5=>
 A.cond (A.aB x5.1) (A.l1 .b (A.bl false) fun x6=>
 A.inr _<|A.ret _ (x6.1,()))<|
 A.inl _ (x3.1,A.arith .add .i64 x3.2.1 (A.lit 1),x3.2.2.1,()))<|
 A.inr _<|A.cl akz akA (x3.2.2.1,()) fun x4=>
 A.rb x4.1) (A.len .iop (A.fL .blk 2 .iop x.1),A.lit 0,x.1,())
def NK (A:Alg) (x:Tup A.ah [.l .atom]):Ot A IU:=
 A.chk (A.cmp .leq (A.lit 0) (A.lit 0))<|
 A.chk (A.cmp .leq (A.lit 0) (A.len .atom x.1))<|
 A.chk (A.cmp .leq (A.len .atom x.1) (A.len .atom x.1))<|
 A.chk (A.cmp .eql (A.len .atom x.1) (A.len .atom x.1))<|
 A.ret _ (A.sub .atom x.1 (A.lit 0) (A.len .atom x.1),())
def NP (A:Alg) (Xt:Pt A zf) (Xu:Ft A zf) (Xv:Pt A zh) (Xw:Ft A zh) (akD:Pt A IU) (akE:Ft A IU) (x:Tup A.ah [.x .tab,.x .atom]):Ot A zm:=
 A.l1 .i (A.lit 0) fun x0=>
 A.cl Xv Xw (x.1,x.2.1,()) fun x1=>
 A.l1 .i x1.1 fun x2=>
 A.cond (A.cmp .geq x2.1 (A.lit 0)) (A.l1 (.x .tab) x.1 fun x3=>
 A.l1 .i x2.1 fun x4=>
 A.ret _ (x3.1,x4.1,()))<|
 A.cl Xt Xu (x.2.1,A.len .atom (A.fL .tab 0 .atom x.1),()) fun x3=>
 A.cond (A.au (A.aB x3.1) (A.bl true) (A.cmp .eql (A.len .atom (A.fL .tab 0 .atom x.1)) (A.lit 200))) (A.l1 (.x .tab) x.1 fun x4=>
 A.l1 .i (A.lit (-1)) fun x5=>
 A.ret _ (x4.1,x5.1,()))<|
 A.cl akD akE (A.fL .tab 0 .atom x.1,()) fun x4=>
 A.chk (A.orB (A.cmp .lss (A.lit 0) (A.len .atom (A.lst .atom [x.2.1]))) (A.cmp .eql (A.len .atom x4.1) (A.lit 0)))<|
 A.chk (A.cmp .leq (A.addN (A.len .atom x4.1) (A.len .atom (A.lst .atom [x.2.1]))) (A.lit 1073741824))<|
 A.l1 (.l .atom) (A.app .atom x4.1 (A.lst .atom [x.2.1])) fun x5=>
 A.l1 .i (A.len .atom (A.fL .tab 0 .atom x.1)) fun x6=>
 A.ret _ (A.mkX .tab (x5.1,()),x6.1,())
def NQ (A:Alg) (fE:Pt A bZ) (fF:Ft A bZ) (x:Tup A.ah [.i]):Ot A zn:=
 A.cl fE fF (x.1,A.lit 0,A.lit 199,()) fun x0=>
 A.cond (A.aB x0.1) (A.ret _ (A.bX .mono,()))<|
 A.l1 (.l .i64) (A.lst .i64 [A.mkX .i64 (x.1,())]) fun x1=>
 A.l1 (.l .mono) (A.lst .mono [A.mkX .mono (A.lit 1,x1.1,())]) fun x2=>
 A.ret _ (x2.1,())
def NR (A:Alg) (XB:Pt A zn) (XC:Ft A zn) (XD:Pt A zm) (XE:Ft A zm) (x:Tup A.ah [.i,.i,.l .atom,.b]):Ot A zo:=
 A.cl XD XE (A.mkX .tab (x.2.2.1,()),A.mkX .atom (x.1,x.2.1,A.bX .mono,A.bX .mono,()),()) fun x0=>
 A.l1 (.x .tab) x0.1 fun x1=>
 A.l1 .i x0.2.1 fun x2=>
 A.cond (A.cmp .lss x2.1 (A.lit 0)) (A.l1 .b (A.bl true) fun x3=>
 A.ret _ (A.mkX .poly (A.bX .mono,()),x.2.2.1,x3.1,()))<|
 A.l1 (.x .tab) x1.1 fun x3=>
 A.cl XB XC (x2.1,()) fun x4=>
 A.ret _ (A.mkX .poly (x4.1,()),A.fL .tab 0 .atom x3.1,x.2.2.2.1,())
def NS (A:Alg) (S9:Pt A zo) (Ta:Ft A zo) (x:Tup A.ah [.l .atom,.b]):Ot A zq:=
 A.iter [.i,.l .atom,.b,.l .poly] (fun x0=>
 A.cond (A.cmp .lss x0.1 (A.lit 4)) (A.l1 .i x0.1 fun x1=>
 A.cl S9 Ta (A.lit 1,x1.1,x0.2.1,x0.2.2.1,()) fun x2=>
 A.l1 (.l .poly) (A.lst .poly [x2.1]) fun x3=>
 A.chk (A.cmp .leq (A.addN (A.len .poly x0.2.2.2.1) (A.len .poly x3.1)) (A.lit 1073741824))<|
 A.l1 (.l .poly) (A.app .poly x0.2.2.2.1 x3.1) fun x4=>
 A.inl _ (A.arith .add .i64 x0.1 (A.lit 1),x2.2.1,x2.2.2.1,x4.1,()))<|
 A.inr _<|A.ret _ (x0.2.1,x0.2.2.1,x0.2.2.2.1,())) (A.lit 0,x.1,x.2.1,A.bX .poly,())
def NT (A:Alg) (fE:Pt A bZ) (fF:Ft A bZ) (x:Tup A.ah [.x .iop]):Ot A IV:=
 A.l1 .b (A.bl false) fun x0=>
 A.cl fE fF (A.fI .iop 0 x.1,A.lit 4,A.lit 7,()) fun x1=>
 A.rb x1.1
def NU (A:Alg) (x:Tup A.ah [.l .poly]):Ot A IW:=
 A.chk (A.cmp .neq (A.len .poly x.1) (A.lit 0))<|
 A.cond (A.bl false) (A.ret _ (x.1,A.bX .poly,()))<|
 A.l1 (.l .poly) (A.lst .poly []) fun x0=>
 A.chk (A.cmp .leq (A.addN (A.len .poly x0.1) (A.len .poly x.1)) (A.lit 1073741824))<|
 A.l1 (.l .poly) (A.app .poly x0.1 x.1) fun x1=>
 A.ret _ (x.1,x1.1,())
def NV (A:Alg) (fE:Pt A bZ) (fF:Ft A bZ) (x:Tup A.ah [.i]):Ot A tO:=
 A.cl fE fF (x.1,A.lit 1,A.lit 65535,()) fun x0=>
 A.cond (A.aB x0.1) (A.ret _ (A.bX .mono,()))<|
 A.l1 (.l .mono) (A.lst .mono [A.mkX .mono (x.1,A.bX .i64,())]) fun x1=>
 A.ret _ (x1.1,())
def NW (A:Alg) (x:Tup A.ah [.i]):Ot A tQ:=
 A.l1 .i (A.lit 0) fun x0=>
 A.l1 .i (A.arith .and .i64 x.1 (A.lit 65535)) fun x1=>
 A.ret _ (x1.1,())
def NY (A:Alg) (rA:Pt A iT) (rC:Ft A iT) (Gc:Pt A tQ) (Gd:Ft A tQ) (x:Tup A.ah [.i,.i,.i]):Ot A zu:=
 A.l1 .i (A.lit 0) fun x0=>
 A.cl rA rC (x.2.1,()) fun x1=>
 A.cg (A.aB (A.aB x1.1)) rA rC (x.2.2.1,()) fun x2=>
 A.cond (A.au (A.aB x1.1) (A.bl true) (A.aB x2.1)) (A.l1 .i (A.lit 0) fun x3=>
 A.ret _ (x3.1,()))<|
 A.l1 .b (A.cmp .eql x.1 (A.lit 1)) fun x3=>
 A.cond x3.1 (A.cl Gc Gd (A.arith .add .i64 x.2.1 x.2.2.1,()) fun x4=>
 A.l1 .i x4.1 fun x5=>
 A.ret _ (x5.1,()))<|
 A.l1 .b (A.cmp .eql x.1 (A.lit 2)) fun x4=>
 A.cond x4.1 (A.cl Gc Gd (A.arith .sub .i64 x.2.1 x.2.2.1,()) fun x5=>
 A.l1 .i x5.1 fun x6=>
 A.ret _ (x6.1,()))<|
 A.l1 .b (A.cmp .eql x.1 (A.lit 3)) fun x5=>
 A.cond x5.1 (A.cl Gc Gd (A.arith .mul .i64 x.2.1 x.2.2.1,()) fun x6=>
 A.l1 .i x6.1 fun x7=>
 A.ret _ (x7.1,()))<|
 A.l1 .b (A.cmp .eql x.1 (A.lit 4)) fun x6=>
 A.cond x6.1 (A.l1 .i (A.arith .and .i64 x.2.1 x.2.2.1) fun x7=>
 A.ret _ (x7.1,()))<|
 A.l1 .b (A.cmp .eql x.1 (A.lit 5)) fun x7=>
 A.cond x7.1 (A.l1 .i (A.arith .xor .i64 x.2.1 x.2.2.1) fun x8=>
 A.ret _ (x8.1,()))<|
 A.l1 .i (A.lit 0) fun x8=>
 A.ret _ (x8.1,())
def NZ (A:Alg) (F8:Pt A mW) (F9:Ft A mW) (x:Tup A.ah [.x .mono,.x .mono]):Ot A zw:=
 A.l1 .i (A.lit 0) fun x0=>
 A.cl F8 F9 (A.fL .mono 1 .i64 x.1,A.fL .mono 1 .i64 x.2.1,()) fun x1=>
 A.l1 .i x1.1 fun x2=>
 A.ret _ (x2.1,())
def Gf (A:Alg) (N7:Pt A zw) (N8:Ft A zw) (x:Tup A.ah [.i,.i,.l .mono]):Ot A Bn:=
 A.l1 .i (A.arith .add .i64 x.1 (A.lit 1)) fun x0=>
 A.iter [.i,.i,.i,.l .mono] (fun x1=>
 A.cond (A.cmp .lss x1.2.2.1 x1.2.1) (A.l1 .i x1.2.2.1 fun x2=>
 A.iter [.i,.i,.i,.i,.l .mono] (fun x3=>
 A.chk (A.orB (A.aB (A.cmp .gtr x3.2.2.2.1 x3.1)) (A.cmp .leq (A.lit 0) x3.2.2.2.1))<|
 A.chk (A.orB (A.aB (A.cmp .gtr x3.2.2.2.1 x3.1)) (A.cmp .lss x3.2.2.2.1 (A.len .mono x3.q.1)))<|
 A.chk (A.orB (A.aB (A.cmp .gtr x3.2.2.2.1 x3.1)) (A.cmp .leq (A.lit 0) x3.2.2.2.1))<|
 A.chk (A.orB (A.aB (A.cmp .gtr x3.2.2.2.1 x3.1)) (A.cmp .lss x3.2.2.2.1 (A.len .mono x3.q.1)))<|
 A.chk (A.orB (A.aB (A.cmp .gtr x3.2.2.2.1 x3.1)) (A.cmp .leq (A.lit 0) (A.arith .sub .i64 x3.2.2.2.1 (A.lit 1))))<|
 A.chk (A.orB (A.aB (A.cmp .gtr x3.2.2.2.1 x3.1)) (A.cmp .lss (A.arith .sub .i64 x3.2.2.2.1 (A.lit 1)) (A.len .mono x3.q.1)))<|
 A.chk (A.orB (A.aB (A.cmp .gtr x3.2.2.2.1 x3.1)) (A.cmp .leq (A.lit 0) (A.arith .sub .i64 x3.2.2.2.1 (A.lit 1))))<|
 A.chk (A.orB (A.aB (A.cmp .gtr x3.2.2.2.1 x3.1)) (A.cmp .lss (A.arith .sub .i64 x3.2.2.2.1 (A.lit 1)) (A.len .mono x3.q.1)))<|
 A.cg (A.cmp .gtr x3.2.2.2.1 x3.1) N7 N8 (A.get .mono x3.q.1 x3.2.2.2.1,A.get .mono x3.q.1 (A.arith .sub .i64 x3.2.2.2.1 (A.lit 1)),()) fun x4=>
 A.cond (A.au (A.cmp .gtr x3.2.2.2.1 x3.1) (A.cmp .lss x4.1 (A.lit 0)) (A.bl false)) (A.bd .mono x3.q.1 (A.arith .sub .i64 x3.2.2.2.1 (A.lit 1))<|
 A.bd .mono x3.q.1 (A.arith .sub .i64 x3.2.2.2.1 (A.lit 1))<|
 A.bd .mono x3.q.1 x3.2.2.2.1<|
 A.bd .mono x3.q.1 x3.2.2.2.1<|
 A.bd .mono x3.q.1 x3.2.2.2.1<|
 A.bd .mono x3.q.1 x3.2.2.2.1<|
 A.l1 (.x .mono) (A.get .mono x3.q.1 (A.arith .sub .i64 x3.2.2.2.1 (A.lit 1))) fun x5=>
 A.bd .mono (A.set .mono x3.q.1 x3.2.2.2.1 x5.1) (A.arith .sub .i64 x3.2.2.2.1 (A.lit 1))<|
 A.bd .mono (A.set .mono x3.q.1 x3.2.2.2.1 x5.1) (A.arith .sub .i64 x3.2.2.2.1 (A.lit 1))<|
 A.l1 (.x .mono) (A.get .mono x3.q.1 x3.2.2.2.1) fun x6=>
 A.l1 .i (A.arith .sub .i64 x3.2.2.2.1 (A.lit 1)) fun x7=>
 A.inl _ (x3.1,x3.2.1,x3.2.2.1,x7.1,A.set .mono (A.set .mono x3.q.1 x3.2.2.2.1 x5.1) (A.arith .sub .i64 x3.2.2.2.1 (A.lit 1)) x6.1,()))<|
 A.inr _<|A.l1 .i (A.arith .add .i64 x3.2.2.1 (A.lit 1)) fun x5=>
 A.inl _ (x3.1,x3.2.1,x5.1,x3.q.1,())) (x1.1,x1.2.1,x1.2.2.1,x2.1,x1.2.2.2.1,()))<|
 A.inr _<|A.ret _ (x1.2.2.2.1,())) (x.1,x.2.1,x0.1,x.2.2.1,())
def Gg (A:Alg) (x:Tup A.ah [.i,.i,.i,.l .mono]):Ot A Bo:=
 A.l1 .i (A.lit 0) fun x0=>
 A.iter [.i,.i,.i,.i,.l .mono] (fun x1=>
 A.cond (A.cmp .lss x1.2.2.2.1 x1.2.2.1) (A.bd .mono x1.q.1 (A.arith .add .i64 x1.2.1 x1.2.2.2.1)<|
 A.bd .mono x1.q.1 (A.arith .add .i64 x1.2.1 x1.2.2.2.1)<|
 A.bd .mono x1.q.1 (A.arith .add .i64 x1.1 x1.2.2.2.1)<|
 A.bd .mono x1.q.1 (A.arith .add .i64 x1.1 x1.2.2.2.1)<|
 A.bd .mono x1.q.1 (A.arith .add .i64 x1.1 x1.2.2.2.1)<|
 A.bd .mono x1.q.1 (A.arith .add .i64 x1.1 x1.2.2.2.1)<|
 A.l1 (.x .mono) (A.get .mono x1.q.1 (A.arith .add .i64 x1.2.1 x1.2.2.2.1)) fun x2=>
 A.bd .mono (A.set .mono x1.q.1 (A.arith .add .i64 x1.1 x1.2.2.2.1) x2.1) (A.arith .add .i64 x1.2.1 x1.2.2.2.1)<|
 A.bd .mono (A.set .mono x1.q.1 (A.arith .add .i64 x1.1 x1.2.2.2.1) x2.1) (A.arith .add .i64 x1.2.1 x1.2.2.2.1)<|
 A.l1 (.x .mono) (A.get .mono x1.q.1 (A.arith .add .i64 x1.1 x1.2.2.2.1)) fun x3=>
 A.l1 .i (A.arith .add .i64 x1.2.2.2.1 (A.lit 1)) fun x4=>
 A.inl _ (x1.1,x1.2.1,x1.2.2.1,x4.1,A.set .mono (A.set .mono x1.q.1 (A.arith .add .i64 x1.1 x1.2.2.2.1) x2.1) (A.arith .add .i64 x1.2.1 x1.2.2.2.1) x3.1,()))<|
 A.inr _<|A.ret _ (x1.q.1,())) (x.1,x.2.1,x.2.2.1,x0.1,x.2.2.2.1,())
def Gh (A:Alg) (Qu:Pt A Bo) (Qv:Ft A Bo) (x:Tup A.ah [.i,.i,.i,.l .mono]):Ot A Bq:=
 A.l1 .i (A.arith .sub .i64 x.2.1 x.1) fun x0=>
 A.l1 .i (A.arith .sub .i64 x.2.2.1 x.2.1) fun x1=>
 A.iter [.i,.i,.i,.l .mono] (fun x2=>
 A.cond (A.cmp .neq x2.2.1 x2.2.2.1) (A.bind [.i,.i,.i,.l .mono] (A.cond (A.cmp .gtr x2.2.1 x2.2.2.1) (A.cl Qu Qv (A.arith .sub .i64 x2.1 x2.2.1,x2.1,x2.2.2.1,x2.2.2.2.1,()) fun x3=>
 A.l1 .i (A.arith .sub .i64 x2.2.1 x2.2.2.1) fun x4=>
 A.ret _ (x2.1,x4.1,x2.2.2.1,x3.1,()))<|
 A.cl Qu Qv (A.arith .sub .i64 x2.1 x2.2.1,A.arith .sub .i64 (A.arith .add .i64 x2.1 x2.2.2.1) x2.2.1,x2.2.1,x2.2.2.2.1,()) fun x3=>
 A.l1 .i (A.arith .sub .i64 x2.2.2.1 x2.2.1) fun x4=>
 A.ret _ (x2.1,x2.2.1,x4.1,x3.1,())) fun x3=>
 A.inl _ (x3.1,x3.2.1,x3.2.2.1,x3.2.2.2.1,()))<|
 A.inr _<|A.cl Qu Qv (A.arith .sub .i64 x2.1 x2.2.1,x2.1,x2.2.1,x2.2.2.2.1,()) fun x3=>
 A.ret _ (x3.1,())) (x.2.1,x0.1,x1.1,x.2.2.2.1,())
def Gi (A:Alg) (N7:Pt A zw) (N8:Ft A zw) (aha:Pt A Bq) (ahb:Ft A Bq) (Gj:Pt A mX) (Gm:Ft A mX) (x:Tup A.ah [.i,.i,.i,.l .mono]):Ot A mX:=
 A.cond (A.cmp .eql (A.arith .sub .i64 x.2.1 x.1) (A.lit 1)) (A.l1 .i x.2.1 fun x0=>
 A.l1 .i x.2.2.1 fun x1=>
 A.iter [.i,.i,.i,.l .mono] (fun x2=>
 A.cond (A.cmp .lss x2.2.1 x2.2.2.1) (A.chk (A.cmp .leq (A.lit 0) (A.lit 1))<|
 A.l1 .i (A.conv .i64 (A.arith .shr .u64 (A.conv .u64 (A.arith .add .i64 x2.2.1 x2.2.2.1)) (A.lit 1))) fun x3=>
 A.bd .mono x2.2.2.2.1 x3.1<|
 A.bd .mono x2.2.2.2.1 x3.1<|
 A.bd .mono x2.2.2.2.1 x2.1<|
 A.bd .mono x2.2.2.2.1 x2.1<|
 A.cl N7 N8 (A.get .mono x2.2.2.2.1 x3.1,A.get .mono x2.2.2.2.1 x2.1,()) fun x4=>
 A.bind [.i,.i,.i,.l .mono] (A.cond (A.cmp .lss x4.1 (A.lit 0)) (A.l1 .i (A.arith .add .i64 x3.1 (A.lit 1)) fun x5=>
 A.ret _ (x2.1,x5.1,x2.2.2.1,x2.2.2.2.1,()))<|
 A.l1 .i x3.1 fun x5=>
 A.ret _ (x2.1,x2.2.1,x5.1,x2.2.2.2.1,())) fun x5=>
 A.inl _ (x5.1,x5.2.1,x5.2.2.1,x5.2.2.2.1,()))<|
 A.inr _<|A.l1 .i x2.1 fun x3=>
 A.iter [.i,.i,.l .mono] (fun x4=>
 A.cond (A.cmp .lss x4.2.1 (A.arith .sub .i64 x4.1 (A.lit 1))) (A.bd .mono x4.2.2.1 (A.arith .add .i64 x4.2.1 (A.lit 1))<|
 A.bd .mono x4.2.2.1 (A.arith .add .i64 x4.2.1 (A.lit 1))<|
 A.bd .mono x4.2.2.1 x4.2.1<|
 A.bd .mono x4.2.2.1 x4.2.1<|
 A.bd .mono x4.2.2.1 x4.2.1<|
 A.bd .mono x4.2.2.1 x4.2.1<|
 A.l1 (.x .mono) (A.get .mono x4.2.2.1 (A.arith .add .i64 x4.2.1 (A.lit 1))) fun x5=>
 A.bd .mono (A.set .mono x4.2.2.1 x4.2.1 x5.1) (A.arith .add .i64 x4.2.1 (A.lit 1))<|
 A.bd .mono (A.set .mono x4.2.2.1 x4.2.1 x5.1) (A.arith .add .i64 x4.2.1 (A.lit 1))<|
 A.l1 (.x .mono) (A.get .mono x4.2.2.1 x4.2.1) fun x6=>
 A.l1 .i (A.arith .add .i64 x4.2.1 (A.lit 1)) fun x7=>
 A.inl _ (x4.1,x7.1,A.set .mono (A.set .mono x4.2.2.1 x4.2.1 x5.1) (A.arith .add .i64 x4.2.1 (A.lit 1)) x6.1,()))<|
 A.inr _<|A.ret _ (x4.2.2.1,())) (x2.2.1,x3.1,x2.2.2.2.1,())) (x.1,x0.1,x1.1,x.2.2.2.1,()))<|
 A.cond (A.cmp .eql (A.arith .sub .i64 x.2.2.1 x.2.1) (A.lit 1)) (A.l1 .i x.1 fun x0=>
 A.l1 .i x.2.1 fun x1=>
 A.iter [.i,.i,.i,.l .mono] (fun x2=>
 A.cond (A.cmp .lss x2.2.1 x2.2.2.1) (A.chk (A.cmp .leq (A.lit 0) (A.lit 1))<|
 A.l1 .i (A.conv .i64 (A.arith .shr .u64 (A.conv .u64 (A.arith .add .i64 x2.2.1 x2.2.2.1)) (A.lit 1))) fun x3=>
 A.bd .mono x2.2.2.2.1 x2.1<|
 A.bd .mono x2.2.2.2.1 x2.1<|
 A.bd .mono x2.2.2.2.1 x3.1<|
 A.bd .mono x2.2.2.2.1 x3.1<|
 A.cl N7 N8 (A.get .mono x2.2.2.2.1 x2.1,A.get .mono x2.2.2.2.1 x3.1,()) fun x4=>
 A.bind [.i,.i,.i,.l .mono] (A.cond (A.aB (A.cmp .lss x4.1 (A.lit 0))) (A.l1 .i (A.arith .add .i64 x3.1 (A.lit 1)) fun x5=>
 A.ret _ (x2.1,x5.1,x2.2.2.1,x2.2.2.2.1,()))<|
 A.l1 .i x3.1 fun x5=>
 A.ret _ (x2.1,x2.2.1,x5.1,x2.2.2.2.1,())) fun x5=>
 A.inl _ (x5.1,x5.2.1,x5.2.2.1,x5.2.2.2.1,()))<|
 A.inr _<|A.l1 .i x2.1 fun x3=>
 A.iter [.i,.i,.l .mono] (fun x4=>
 A.cond (A.cmp .gtr x4.2.1 x4.1) (A.bd .mono x4.2.2.1 (A.arith .sub .i64 x4.2.1 (A.lit 1))<|
 A.bd .mono x4.2.2.1 (A.arith .sub .i64 x4.2.1 (A.lit 1))<|
 A.bd .mono x4.2.2.1 x4.2.1<|
 A.bd .mono x4.2.2.1 x4.2.1<|
 A.bd .mono x4.2.2.1 x4.2.1<|
 A.bd .mono x4.2.2.1 x4.2.1<|
 A.l1 (.x .mono) (A.get .mono x4.2.2.1 (A.arith .sub .i64 x4.2.1 (A.lit 1))) fun x5=>
 A.bd .mono (A.set .mono x4.2.2.1 x4.2.1 x5.1) (A.arith .sub .i64 x4.2.1 (A.lit 1))<|
 A.bd .mono (A.set .mono x4.2.2.1 x4.2.1 x5.1) (A.arith .sub .i64 x4.2.1 (A.lit 1))<|
 A.l1 (.x .mono) (A.get .mono x4.2.2.1 x4.2.1) fun x6=>
 A.l1 .i (A.arith .sub .i64 x4.2.1 (A.lit 1)) fun x7=>
 A.inl _ (x4.1,x7.1,A.set .mono (A.set .mono x4.2.2.1 x4.2.1 x5.1) (A.arith .sub .i64 x4.2.1 (A.lit 1)) x6.1,()))<|
 A.inr _<|A.ret _ (x4.2.2.1,())) (x2.2.1,x3.1,x2.2.2.2.1,())) (x.2.1,x0.1,x1.1,x.2.2.2.1,()))<|
 A.chk (A.cmp .leq (A.lit 0) (A.lit 1))<|
 A.l1 .i (A.conv .i64 (A.arith .shr .u64 (A.conv .u64 (A.arith .add .i64 x.1 x.2.2.1)) (A.lit 1))) fun x0=>
 A.l1 .i (A.arith .add .i64 x0.1 x.2.1) fun x1=>
 A.l1 .i (A.lit 0) fun x2=>
 A.l1 .i (A.lit 0) fun x3=>
 A.bind [.i,.i,.i,.i,.i,.i,.i,.l .mono] (A.cond (A.cmp .gtr x.2.1 x0.1) (A.l1 .i (A.arith .sub .i64 x1.1 x.2.2.1) fun x4=>
 A.l1 .i x0.1 fun x5=>
 A.ret _ (x.1,x.2.1,x.2.2.1,x0.1,x1.1,x4.1,x5.1,x.2.2.2.1,()))<|
 A.l1 .i x.1 fun x4=>
 A.l1 .i x.2.1 fun x5=>
 A.ret _ (x.1,x.2.1,x.2.2.1,x0.1,x1.1,x4.1,x5.1,x.2.2.2.1,())) fun x4=>
 A.l1 .i (A.arith .sub .i64 x4.q.1 (A.lit 1)) fun x5=>
 A.iter [.i,.i,.i,.i,.i,.i,.i,.i,.l .mono] (fun x6=>
 A.cond (A.cmp .lss x6.q.2.1 x6.q.2.2.1) (A.chk (A.cmp .leq (A.lit 0) (A.lit 1))<|
 A.l1 .i (A.conv .i64 (A.arith .shr .u64 (A.conv .u64 (A.arith .add .i64 x6.q.2.1 x6.q.2.2.1)) (A.lit 1))) fun x7=>
 A.bd .mono x6.o.1 (A.arith .sub .i64 x6.q.2.2.2.1 x7.1)<|
 A.bd .mono x6.o.1 (A.arith .sub .i64 x6.q.2.2.2.1 x7.1)<|
 A.bd .mono x6.o.1 x7.1<|
 A.bd .mono x6.o.1 x7.1<|
 A.cl N7 N8 (A.get .mono x6.o.1 (A.arith .sub .i64 x6.q.2.2.2.1 x7.1),A.get .mono x6.o.1 x7.1,()) fun x8=>
 A.bind [.i,.i,.i,.i,.i,.i,.i,.i,.l .mono] (A.cond (A.aB (A.cmp .lss x8.1 (A.lit 0))) (A.l1 .i (A.arith .add .i64 x7.1 (A.lit 1)) fun x9=>
 A.ret _ (x6.1,x6.2.1,x6.2.2.1,x6.2.2.2.1,x6.q.1,x9.1,x6.q.2.2.1,x6.q.2.2.2.1,x6.o.1,()))<|
 A.l1 .i x7.1 fun x9=>
 A.ret _ (x6.1,x6.2.1,x6.2.2.1,x6.2.2.2.1,x6.q.1,x6.q.2.1,x9.1,x6.q.2.2.2.1,x6.o.1,())) fun x9=>
 A.inl _ (x9.1,x9.2.1,x9.2.2.1,x9.2.2.2.1,x9.q.1,x9.q.2.1,x9.q.2.2.1,x9.q.2.2.2.1,x9.o.1,()))<|
 A.inr _<|A.l1 .i (A.arith .sub .i64 x6.q.1 x6.q.2.1) fun x7=>
 A.bind [.i,.i,.i,.i,.i,.l .mono] (A.cond (A.au (A.cmp .lss x6.q.2.1 x6.2.1) (A.cmp .lss x6.2.1 x7.1) (A.bl false)) (A.cl aha ahb (x6.q.2.1,x6.2.1,x7.1,x6.o.1,()) fun x8=>
 A.ret _ (x6.1,x6.2.2.1,x6.2.2.2.1,x6.q.2.1,x7.1,x8.1,()))<|
 A.ret _ (x6.1,x6.2.2.1,x6.2.2.2.1,x6.q.2.1,x7.1,x6.o.1,())) fun x8=>
 A.bind [.i,.i,.i,.l .mono] (A.cond (A.au (A.cmp .lss x8.1 x8.2.2.2.1) (A.cmp .lss x8.2.2.2.1 x8.2.2.1) (A.bl false)) (A.cl Gj Gm (x8.1,x8.2.2.2.1,x8.2.2.1,x8.q.2.1,()) fun x9=>
 A.ret _ (x8.2.1,x8.2.2.1,x8.q.1,x9.1,()))<|
 A.ret _ (x8.2.1,x8.2.2.1,x8.q.1,x8.q.2.1,())) fun x9=>
 A.bind [.l .mono] (A.cond (A.au (A.cmp .lss x9.2.1 x9.2.2.1) (A.cmp .lss x9.2.2.1 x9.1) (A.bl false)) (A.cl Gj Gm (x9.2.1,x9.2.2.1,x9.1,x9.2.2.2.1,()) fun x10=>
 A.ret _ (x10.1,()))<|
 A.ret _ (x9.2.2.2.1,())) fun x10=>
 A.ret _ (x10.1,())) (x4.1,x4.2.1,x4.2.2.1,x4.2.2.2.1,x4.q.1,x4.q.2.1,x4.q.2.2.1,x5.1,x4.q.2.2.2.1,())
def Gn (A:Alg) (XF:Pt A Bn) (XG:Ft A Bn) (Gj:Pt A mX) (Gm:Ft A mX) (x:Tup A.ah [.i,.l .mono]):Ot A Br:=
 A.l1 .i (A.lit 20) fun x0=>
 A.l1 .i (A.lit 0) fun x1=>
 A.l1 .i x0.1 fun x2=>
 A.iter [.i,.i,.i,.i,.l .mono] (fun x3=>
 A.cond (A.cmp .leq x3.2.2.2.1 x3.1) (A.cl XF XG (x3.2.2.1,x3.2.2.2.1,x3.q.1,()) fun x4=>
 A.l1 .i x3.2.2.2.1 fun x5=>
 A.l1 .i (A.arith .add .i64 x3.2.2.2.1 x3.2.1) fun x6=>
 A.inl _ (x3.1,x3.2.1,x5.1,x6.1,x4.1,()))<|
 A.inr _<|A.cl XF XG (x3.2.2.1,x3.1,x3.q.1,()) fun x4=>
 A.iter [.i,.i,.l .mono] (fun x5=>
 A.cond (A.cmp .lss x5.2.1 x5.1) (A.l1 .i (A.lit 0) fun x6=>
 A.l1 .i (A.arith .mul .i64 (A.lit 2) x5.2.1) fun x7=>
 A.iter [.i,.i,.i,.i,.l .mono] (fun x8=>
 A.cond (A.cmp .leq x8.2.2.2.1 x8.1) (A.cl Gj Gm (x8.2.2.1,A.arith .add .i64 x8.2.2.1 x8.2.1,x8.2.2.2.1,x8.q.1,()) fun x9=>
 A.l1 .i x8.2.2.2.1 fun x10=>
 A.l1 .i (A.arith .add .i64 x8.2.2.2.1 (A.arith .mul .i64 (A.lit 2) x8.2.1)) fun x11=>
 A.inl _ (x8.1,x8.2.1,x10.1,x11.1,x9.1,()))<|
 A.inr _<|A.l1 .i (A.arith .add .i64 x8.2.2.1 x8.2.1) fun x9=>
 A.bind [.i,.i,.l .mono] (A.cond (A.cmp .lss x9.1 x8.1) (A.cl Gj Gm (x8.2.2.1,x9.1,x8.1,x8.q.1,()) fun x10=>
 A.ret _ (x8.1,x8.2.1,x10.1,()))<|
 A.ret _ (x8.1,x8.2.1,x8.q.1,())) fun x10=>
 A.l1 .i (A.arith .mul .i64 x10.2.1 (A.lit 2)) fun x11=>
 A.inl _ (x10.1,x11.1,x10.2.2.1,())) (x5.1,x5.2.1,x6.1,x7.1,x5.2.2.1,()))<|
 A.inr _<|A.ret _ (x5.2.2.1,())) (x3.1,x3.2.1,x4.1,())) (x.1,x0.1,x1.1,x2.1,x.2.1,())
def Gp (A:Alg) (ahc:Pt A Br) (ahd:Ft A Br) (x:Tup A.ah [.l .mono]):Ot A Bu:=
 A.cl ahc ahd (A.len .mono x.1,x.1,()) fun x0=>
 A.ret _ (x0.1,())
def N9 (A:Alg) (F8:Pt A mW) (F9:Ft A mW) (lD:Pt A iD) (lF:Ft A iD) (Gc:Pt A tQ) (Gd:Ft A tQ) (Xl:Pt A y8) (Xm:Ft A y8) (ahe:Pt A Bu) (ahf:Ft A Bu) (x:Tup A.ah [.l .mono]):Ot A zy:=
 A.l1 .b (A.bl false) fun x0=>
 A.cl ahe ahf (x.1,()) fun x1=>
 A.l1 .i (A.lit 0) fun x2=>
 A.iter [.i,.l .mono,.l .mono] (fun x3=>
 A.cond (A.cmp .lss x3.1 (A.len .mono x3.2.1)) (A.bd .mono x3.2.1 x3.1<|
 A.bd .mono x3.2.1 x3.1<|
 A.l1 .i (A.lit 0) fun x4=>
 A.l1 (.x .mono) (A.get .mono x3.2.1 x3.1) fun x5=>
 A.iter [.i,.i,.l .mono,.x .mono,.l .mono] (fun x6=>
 A.chk (A.orB (A.aB (A.cmp .lss x6.1 (A.len .mono x6.2.2.1))) (A.cmp .leq (A.lit 0) x6.1))<|
 A.chk (A.orB (A.aB (A.cmp .lss x6.1 (A.len .mono x6.2.2.1))) (A.cmp .lss x6.1 (A.len .mono x6.2.2.1)))<|
 A.chk (A.orB (A.aB (A.cmp .lss x6.1 (A.len .mono x6.2.2.1))) (A.cmp .leq (A.lit 0) x6.1))<|
 A.chk (A.orB (A.aB (A.cmp .lss x6.1 (A.len .mono x6.2.2.1))) (A.cmp .lss x6.1 (A.len .mono x6.2.2.1)))<|
 A.cg (A.cmp .lss x6.1 (A.len .mono x6.2.2.1)) F8 F9 (A.fL .mono 1 .i64 x6.2.2.2.1,A.fL .mono 1 .i64 (A.get .mono x6.2.2.1 x6.1),()) fun x7=>
 A.cond (A.au (A.cmp .lss x6.1 (A.len .mono x6.2.2.1)) (A.cmp .eql x7.1 (A.lit 0)) (A.bl false)) (A.bd .mono x6.2.2.1 x6.1<|
 A.bd .mono x6.2.2.1 x6.1<|
 A.cl Gc Gd (A.arith .add .i64 x6.2.1 (A.fI .mono 0 (A.get .mono x6.2.2.1 x6.1)),()) fun x8=>
 A.l1 .i x8.1 fun x9=>
 A.l1 .i (A.arith .add .i64 x6.1 (A.lit 1)) fun x10=>
 A.inl _ (x10.1,x9.1,x6.2.2.1,x6.2.2.2.1,x6.q.1,()))<|
 A.inr _<|A.bind [.i,.l .mono,.l .mono] (A.cond (A.cmp .gtr x6.2.1 (A.lit 0)) (A.cl Xl Xm (A.fL .mono 1 .i64 x6.2.2.2.1,()) fun x8=>
 A.l1 (.l .mono) (A.lst .mono [A.mkX .mono (x6.2.1,x8.1,())]) fun x9=>
 A.chk (A.cmp .leq (A.addN (A.len .mono x6.q.1) (A.len .mono x9.1)) (A.lit 1073741824))<|
 A.l1 (.l .mono) (A.app .mono x6.q.1 x9.1) fun x10=>
 A.ret _ (x6.1,x6.2.2.1,x10.1,()))<|
 A.ret _ (x6.1,x6.2.2.1,x6.q.1,())) fun x8=>
 A.inl _ (x8.1,x8.2.1,x8.2.2.1,())) (x3.1,x4.1,x3.2.1,x5.1,x3.2.2.1,()))<|
 A.inr _<|A.cl lD lF (A.mkX .poly (x3.2.2.1,()),()) fun x4=>
 A.cond (A.aB x4.1) (A.l1 .b (A.bl false) fun x5=>
 A.ret _ (x5.1,x3.2.1,A.bX .mono,()))<|
 A.l1 .b (A.bl true) fun x5=>
 A.ret _ (x5.1,x3.2.1,x3.2.2.1,())) (x2.1,x1.1,A.bX .mono,())
def Gq (A:Alg) (x:Tup A.ah [.i]):Ot A Bv:=
 A.cond (A.cmp .lss x.1 (A.lit 0)) (A.fail)<|
 A.l1 .i (A.arith .sub .i64 x.1 (A.arith .sub .i64 (A.lit 0) (A.lit 0))) fun x0=>
 A.bind [.l .mono] (A.cond (A.cmp .gtr x0.1 (A.lit 0)) (A.chk (A.cmp .eql (A.lit 0) (A.lit 0))<|
 A.chk (A.cmp .eql (A.lit 0) (A.lit 0))<|
 A.chk (A.cmp .leq (A.lit 0) x0.1)<|
 A.chk (A.cmp .leq x0.1 (A.lit 1073741824))<|
 A.chk (A.cmp .leq (A.len .mono (A.rep .mono x0.1 (A.mkX .mono (A.lit 0,A.bX .i64,())))) (A.lit 1073741824))<|
 A.l1 (.l .mono) (A.rep .mono x0.1 (A.mkX .mono (A.lit 0,A.bX .i64,()))) fun x1=>
 A.chk (A.cmp .leq (A.lit 0) (A.lit 0))<|
 A.chk (A.cmp .leq (A.lit 0) (A.lit 0))<|
 A.chk (A.cmp .leq (A.lit 0) (A.len .mono x1.1))<|
 A.chk (A.cmp .eql (A.lit 0) (A.lit 0))<|
 A.chk (A.cmp .leq (A.lit 0) (A.CG (A.lit 0) (A.lit 0)))<|
 A.chk (A.cmp .leq (A.CG (A.lit 0) (A.lit 0)) (A.len .mono x1.1))<|
 A.ret _ (A.sub .mono x1.1 (A.lit 0) (A.CG (A.lit 0) (A.lit 0)),()))<|
 A.ret _ (A.bX .mono,())) fun x1=>
 A.ret _ (x1.1,())
def Oa (A:Alg) (ahg:Pt A Bv) (ahh:Ft A Bv) (x:Tup A.ah [.l .poly]):Ot A IX:=
 A.l1 .i (A.lit 0) fun x0=>
 A.iter [.l .poly,.i,.l .poly,.i,.i] (fun x1=>
 A.cond (A.cmp .lss x1.q.1 x1.2.2.2.1) (A.bd .poly x1.2.2.1 x1.q.1<|
 A.l1 (.l .mono) (A.fL .poly 0 .mono (A.get .poly x1.2.2.1 x1.q.1)) fun x2=>
 A.l1 .i (A.arith .add .i64 x1.2.1 (A.len .mono x2.1)) fun x3=>
 A.cond (A.cmp .lss x3.1 (A.lit 0)) (A.fail)<|
 A.inl _ (x1.1,x3.1,x1.2.2.1,x1.2.2.2.1,A.arith .add .i64 x1.q.1 (A.lit 1),()))<|
 A.inr _<|A.cl ahg ahh (x1.2.1,()) fun x2=>
 A.iter [.l .poly,.i,.i,.l .mono] (fun x3=>
 A.cond (A.cmp .lss x3.2.2.1 x3.2.1) (A.bd .poly x3.1 x3.2.2.1<|
 A.l1 (.l .mono) (A.fL .poly 0 .mono (A.get .poly x3.1 x3.2.2.1)) fun x4=>
 A.chk (A.cmp .leq (A.addN (A.len .mono x3.2.2.2.1) (A.len .mono x4.1)) (A.lit 1073741824))<|
 A.l1 (.l .mono) (A.app .mono x3.2.2.2.1 x4.1) fun x5=>
 A.inl _ (x3.1,x3.2.1,A.arith .add .i64 x3.2.2.1 (A.lit 1),x5.1,()))<|
 A.inr _<|A.ret _ (x3.2.2.2.1,())) (x1.1,A.len .poly x1.1,A.lit 0,x2.1,())) (x.1,x0.1,x.1,A.len .poly x.1,A.lit 0,())
def Ob (A:Alg) (lD:Pt A iD) (lF:Ft A iD) (XH:Pt A zy) (XI:Ft A zy) (akF:Pt A IX) (akG:Ft A IX) (x:Tup A.ah [.x .poly,.x .poly]):Ot A IY:=
 A.l1 .b (A.bl false) fun x0=>
 A.cl lD lF (x.1,()) fun x1=>
 A.cg (A.aB (A.aB x1.1)) lD lF (x.2.1,()) fun x2=>
 A.cond (A.au (A.aB x1.1) (A.bl true) (A.aB x2.1)) (A.l1 .b (A.bl false) fun x3=>
 A.ret _ (x3.1,A.bX .mono,()))<|
 A.l1 (.l .poly) (A.lst .poly [A.mkX .poly (A.fL .poly 0 .mono x.1,()),A.mkX .poly (A.fL .poly 0 .mono x.2.1,())]) fun x3=>
 A.cl akF akG (x3.1,()) fun x4=>
 A.cl XH XI (x4.1,()) fun x5=>
 A.l1 .b x5.1 fun x6=>
 A.ret _ (x6.1,x5.2.2.1,())
def Gr (A:Alg) (x:Tup A.ah [.i]):Ot A Bw:=
 A.cond (A.cmp .lss x.1 (A.lit 0)) (A.fail)<|
 A.l1 .i (A.arith .sub .i64 x.1 (A.arith .sub .i64 (A.lit 0) (A.lit 0))) fun x0=>
 A.bind [.l .i64] (A.cond (A.cmp .gtr x0.1 (A.lit 0)) (A.chk (A.cmp .eql (A.lit 0) (A.lit 0))<|
 A.chk (A.cmp .eql (A.lit 0) (A.lit 0))<|
 A.chk (A.cmp .leq (A.lit 0) x0.1)<|
 A.chk (A.cmp .leq x0.1 (A.lit 1073741824))<|
 A.chk (A.cmp .leq (A.len .i64 (A.rep .i64 x0.1 (A.mkX .i64 (A.lit 0,())))) (A.lit 1073741824))<|
 A.l1 (.l .i64) (A.rep .i64 x0.1 (A.mkX .i64 (A.lit 0,()))) fun x1=>
 A.chk (A.cmp .leq (A.lit 0) (A.lit 0))<|
 A.chk (A.cmp .leq (A.lit 0) (A.lit 0))<|
 A.chk (A.cmp .leq (A.lit 0) (A.len .i64 x1.1))<|
 A.chk (A.cmp .eql (A.lit 0) (A.lit 0))<|
 A.chk (A.cmp .leq (A.lit 0) (A.CG (A.lit 0) (A.lit 0)))<|
 A.chk (A.cmp .leq (A.CG (A.lit 0) (A.lit 0)) (A.len .i64 x1.1))<|
 A.ret _ (A.sub .i64 x1.1 (A.lit 0) (A.CG (A.lit 0) (A.lit 0)),()))<|
 A.ret _ (A.bX .i64,())) fun x1=>
 A.ret _ (x1.1,())
def Oc (A:Alg) (ahi:Pt A Bw) (ahj:Ft A Bw) (x:Tup A.ah [.l .ints]):Ot A IZ:=
 A.l1 .i (A.lit 0) fun x0=>
 A.iter [.l .ints,.i,.l .ints,.i,.i] (fun x1=>
 A.cond (A.cmp .lss x1.q.1 x1.2.2.2.1) (A.bd .ints x1.2.2.1 x1.q.1<|
 A.l1 (.l .i64) (A.fL .ints 0 .i64 (A.get .ints x1.2.2.1 x1.q.1)) fun x2=>
 A.l1 .i (A.arith .add .i64 x1.2.1 (A.len .i64 x2.1)) fun x3=>
 A.cond (A.cmp .lss x3.1 (A.lit 0)) (A.fail)<|
 A.inl _ (x1.1,x3.1,x1.2.2.1,x1.2.2.2.1,A.arith .add .i64 x1.q.1 (A.lit 1),()))<|
 A.inr _<|A.cl ahi ahj (x1.2.1,()) fun x2=>
 A.iter [.l .ints,.i,.i,.l .i64] (fun x3=>
 A.cond (A.cmp .lss x3.2.2.1 x3.2.1) (A.bd .ints x3.1 x3.2.2.1<|
 A.l1 (.l .i64) (A.fL .ints 0 .i64 (A.get .ints x3.1 x3.2.2.1)) fun x4=>
 A.chk (A.cmp .leq (A.addN (A.len .i64 x3.2.2.2.1) (A.len .i64 x4.1)) (A.lit 1073741824))<|
 A.l1 (.l .i64) (A.app .i64 x3.2.2.2.1 x4.1) fun x5=>
 A.inl _ (x3.1,x3.2.1,A.arith .add .i64 x3.2.2.1 (A.lit 1),x5.1,()))<|
 A.inr _<|A.ret _ (x3.2.2.2.1,())) (x1.1,A.len .ints x1.1,A.lit 0,x2.1,())) (x.1,x0.1,x.1,A.len .ints x.1,A.lit 0,())
def Gs (A:Alg) (Xj:Pt A CP) (Xk:Ft A CP) (x:Tup A.ah [.i,.i,.l .i64]):Ot A Bz:=
 A.l1 .i (A.arith .add .i64 x.1 (A.lit 1)) fun x0=>
 A.iter [.i,.i,.i,.l .i64] (fun x1=>
 A.cond (A.cmp .lss x1.2.2.1 x1.2.1) (A.l1 .i x1.2.2.1 fun x2=>
 A.iter [.i,.i,.i,.i,.l .i64] (fun x3=>
 A.chk (A.orB (A.aB (A.cmp .gtr x3.2.2.2.1 x3.1)) (A.cmp .leq (A.lit 0) x3.2.2.2.1))<|
 A.chk (A.orB (A.aB (A.cmp .gtr x3.2.2.2.1 x3.1)) (A.cmp .lss x3.2.2.2.1 (A.len .i64 x3.q.1)))<|
 A.chk (A.orB (A.aB (A.cmp .gtr x3.2.2.2.1 x3.1)) (A.cmp .leq (A.lit 0) x3.2.2.2.1))<|
 A.chk (A.orB (A.aB (A.cmp .gtr x3.2.2.2.1 x3.1)) (A.cmp .lss x3.2.2.2.1 (A.len .i64 x3.q.1)))<|
 A.chk (A.orB (A.aB (A.cmp .gtr x3.2.2.2.1 x3.1)) (A.cmp .leq (A.lit 0) (A.arith .sub .i64 x3.2.2.2.1 (A.lit 1))))<|
 A.chk (A.orB (A.aB (A.cmp .gtr x3.2.2.2.1 x3.1)) (A.cmp .lss (A.arith .sub .i64 x3.2.2.2.1 (A.lit 1)) (A.len .i64 x3.q.1)))<|
 A.chk (A.orB (A.aB (A.cmp .gtr x3.2.2.2.1 x3.1)) (A.cmp .leq (A.lit 0) (A.arith .sub .i64 x3.2.2.2.1 (A.lit 1))))<|
 A.chk (A.orB (A.aB (A.cmp .gtr x3.2.2.2.1 x3.1)) (A.cmp .lss (A.arith .sub .i64 x3.2.2.2.1 (A.lit 1)) (A.len .i64 x3.q.1)))<|
 A.cg (A.cmp .gtr x3.2.2.2.1 x3.1) Xj Xk (A.fI .i64 0 (A.get .i64 x3.q.1 x3.2.2.2.1),A.fI .i64 0 (A.get .i64 x3.q.1 (A.arith .sub .i64 x3.2.2.2.1 (A.lit 1))),()) fun x4=>
 A.cond (A.au (A.cmp .gtr x3.2.2.2.1 x3.1) x4.1 (A.bl false)) (A.bd .i64 x3.q.1 (A.arith .sub .i64 x3.2.2.2.1 (A.lit 1))<|
 A.bd .i64 x3.q.1 (A.arith .sub .i64 x3.2.2.2.1 (A.lit 1))<|
 A.bd .i64 x3.q.1 x3.2.2.2.1<|
 A.bd .i64 x3.q.1 x3.2.2.2.1<|
 A.bd .i64 x3.q.1 x3.2.2.2.1<|
 A.bd .i64 x3.q.1 x3.2.2.2.1<|
 A.l1 .i (A.fI .i64 0 (A.get .i64 x3.q.1 (A.arith .sub .i64 x3.2.2.2.1 (A.lit 1)))) fun x5=>
 A.bd .i64 (A.set .i64 x3.q.1 x3.2.2.2.1 (A.mkX .i64 (x5.1,()))) (A.arith .sub .i64 x3.2.2.2.1 (A.lit 1))<|
 A.bd .i64 (A.set .i64 x3.q.1 x3.2.2.2.1 (A.mkX .i64 (x5.1,()))) (A.arith .sub .i64 x3.2.2.2.1 (A.lit 1))<|
 A.l1 .i (A.fI .i64 0 (A.get .i64 x3.q.1 x3.2.2.2.1)) fun x6=>
 A.l1 .i (A.arith .sub .i64 x3.2.2.2.1 (A.lit 1)) fun x7=>
 A.inl _ (x3.1,x3.2.1,x3.2.2.1,x7.1,A.set .i64 (A.set .i64 x3.q.1 x3.2.2.2.1 (A.mkX .i64 (x5.1,()))) (A.arith .sub .i64 x3.2.2.2.1 (A.lit 1)) (A.mkX .i64 (x6.1,())),()))<|
 A.inr _<|A.l1 .i (A.arith .add .i64 x3.2.2.1 (A.lit 1)) fun x5=>
 A.inl _ (x3.1,x3.2.1,x5.1,x3.q.1,())) (x1.1,x1.2.1,x1.2.2.1,x2.1,x1.2.2.2.1,()))<|
 A.inr _<|A.ret _ (x1.2.2.2.1,())) (x.1,x.2.1,x0.1,x.2.2.1,())
def Gt (A:Alg) (Xj:Pt A CP) (Xk:Ft A CP) (ahk:Pt A Bz) (ahl:Ft A Bz) (ahm:Pt A EB) (ahn:Ft A EB) (aho:Pt A EC) (ahp:Ft A EC) (ahq:Pt A ED) (ahr:Ft A ED) (ahs:Pt A EF) (aht:Ft A EF) (ahu:Pt A EG) (ahv:Ft A EG) (ahw:Pt A EH) (ahx:Ft A EH) (ahy:Pt A EI) (ahz:Ft A EI) (KC:Pt A mY) (KD:Ft A mY) (x:Tup A.ah [.i,.i,.i,.l .i64]):Ot A mY:=
 A.l1 .b (A.bl true) fun x0=>
 A.l1 .b (A.bl true) fun x1=>
 A.iter [.i,.i,.i,.b,.b,.l .i64] (fun x2=>
 A.lu [.i,.i,.i,.b,.b,.l .i64] (A.l1 .i (A.arith .sub .i64 x2.2.1 x2.1) fun x3=>
 A.cond (A.cmp .leq x3.1 (A.lit 12)) (A.cl ahk ahl (x2.1,x2.2.1,x2.q.2.1,()) fun x4=>
 A.inr _<|A.inr _<|A.ret _ (x4.1,()))<|
 A.cond (A.cmp .eql x2.2.2.1 (A.lit 0)) (A.cl ahm ahn (x2.1,x2.2.1,x2.q.2.1,()) fun x4=>
 A.inr _<|A.inr _<|A.ret _ (x4.1,()))<|
 A.bind [.i,.i,.i,.b,.b,.i,.l .i64] (A.cond (A.aB x2.2.2.2.1) (A.cl aho ahp (x2.1,x2.2.1,x2.q.2.1,()) fun x4=>
 A.l1 .i (A.arith .sub .i64 x2.2.2.1 (A.lit 1)) fun x5=>
 A.ret _ (x2.1,x2.2.1,x5.1,x2.2.2.2.1,x2.q.1,x3.1,x4.1,()))<|
 A.ret _ (x2.1,x2.2.1,x2.2.2.1,x2.2.2.2.1,x2.q.1,x3.1,x2.q.2.1,())) fun x4=>
 A.cl ahq ahr (x4.1,x4.2.1,x4.q.2.2.1,()) fun x5=>
 A.l1 .i x5.1 fun x6=>
 A.l1 .i x5.2.1 fun x7=>
 A.bind [.i,.i,.i,.b,.b,.i,.i,.i,.l .i64] (A.cond (A.cmp .eql x7.1 (A.lit 2)) (A.cl ahs aht (x4.1,x4.2.1,x5.2.2.1,()) fun x8=>
 A.l1 .i (A.arith .sub .i64 (A.arith .sub .i64 x4.2.1 (A.lit 1)) (A.arith .sub .i64 x6.1 x4.1)) fun x9=>
 A.l1 .i (A.lit 1) fun x10=>
 A.ret _ (x4.1,x4.2.1,x4.2.2.1,x4.2.2.2.1,x4.q.1,x4.q.2.1,x9.1,x10.1,x8.1,()))<|
 A.ret _ (x4.1,x4.2.1,x4.2.2.1,x4.2.2.2.1,x4.q.1,x4.q.2.1,x6.1,x7.1,x5.2.2.1,())) fun x8=>
 A.lu [.i,.i,.i,.b,.b,.i,.i,.l .i64] (A.cond (A.au (A.au x8.2.2.2.1 x8.q.1 (A.bl false)) (A.cmp .eql x8.q.2.2.2.1 (A.lit 1)) (A.bl false)) (A.cl ahu ahv (x8.1,x8.2.1,x8.o.1,()) fun x9=>
 A.cond x9.1 (A.inr _<|A.inr _<|A.inr _<|A.ret _ (x9.2.1,()))<|
 A.inl _ (x8.1,x8.2.1,x8.2.2.1,x8.2.2.2.1,x8.q.1,x8.q.2.1,x8.q.2.2.1,x9.2.1,()))<|
 A.inl _ (x8.1,x8.2.1,x8.2.2.1,x8.2.2.2.1,x8.q.1,x8.q.2.1,x8.q.2.2.1,x8.o.1,())) fun x9=>
 A.chk (A.orB (A.aB (A.cmp .gtr x9.1 (A.lit 0))) (A.cmp .leq (A.lit 0) (A.arith .sub .i64 x9.1 (A.lit 1))))<|
 A.chk (A.orB (A.aB (A.cmp .gtr x9.1 (A.lit 0))) (A.cmp .lss (A.arith .sub .i64 x9.1 (A.lit 1)) (A.len .i64 x9.q.2.2.2.1)))<|
 A.chk (A.orB (A.aB (A.cmp .gtr x9.1 (A.lit 0))) (A.cmp .leq (A.lit 0) (A.arith .sub .i64 x9.1 (A.lit 1))))<|
 A.chk (A.orB (A.aB (A.cmp .gtr x9.1 (A.lit 0))) (A.cmp .lss (A.arith .sub .i64 x9.1 (A.lit 1)) (A.len .i64 x9.q.2.2.2.1)))<|
 A.chk (A.orB (A.aB (A.cmp .gtr x9.1 (A.lit 0))) (A.cmp .leq (A.lit 0) x9.q.2.2.1))<|
 A.chk (A.orB (A.aB (A.cmp .gtr x9.1 (A.lit 0))) (A.cmp .lss x9.q.2.2.1 (A.len .i64 x9.q.2.2.2.1)))<|
 A.chk (A.orB (A.aB (A.cmp .gtr x9.1 (A.lit 0))) (A.cmp .leq (A.lit 0) x9.q.2.2.1))<|
 A.chk (A.orB (A.aB (A.cmp .gtr x9.1 (A.lit 0))) (A.cmp .lss x9.q.2.2.1 (A.len .i64 x9.q.2.2.2.1)))<|
 A.cg (A.cmp .gtr x9.1 (A.lit 0)) Xj Xk (A.fI .i64 0 (A.get .i64 x9.q.2.2.2.1 (A.arith .sub .i64 x9.1 (A.lit 1))),A.fI .i64 0 (A.get .i64 x9.q.2.2.2.1 x9.q.2.2.1),()) fun x10=>
 A.cond (A.au (A.cmp .gtr x9.1 (A.lit 0)) (A.aB x10.1) (A.bl false)) (A.cl ahw ahx (x9.1,x9.2.1,x9.q.2.2.1,x9.q.2.2.2.1,()) fun x11=>
 A.l1 .i x11.1 fun x12=>
 A.l1 .i x12.1 fun x13=>
 A.inl _ (x13.1,x9.2.1,x9.2.2.1,x9.2.2.2.1,x9.q.1,x11.2.1,()))<|
 A.cl ahy ahz (x9.1,x9.2.1,x9.q.2.2.1,x9.q.2.2.2.1,()) fun x11=>
 A.l1 .i x11.1 fun x12=>
 A.l1 .b x11.2.1 fun x13=>
 A.l1 .b x13.1 fun x14=>
 A.l1 .i (A.arith .sub .i64 x12.1 x9.1) fun x15=>
 A.l1 .i (A.arith .sub .i64 x9.2.1 x12.1) fun x16=>
 A.chk (A.cmp .neq (A.lit 8) (A.lit 0))<|
 A.l1 .i (A.arith .quo .i64 x9.q.2.1 (A.lit 8)) fun x17=>
 A.bind [.i,.i,.i,.b,.b,.l .i64] (A.cond (A.cmp .lss x15.1 x16.1) (A.l1 .b (A.cmp .geq x15.1 x17.1) fun x18=>
 A.cl KC KD (x9.1,x12.1,x9.2.2.1,x11.2.2.1,()) fun x19=>
 A.l1 .i (A.arith .add .i64 x12.1 (A.lit 1)) fun x20=>
 A.ret _ (x20.1,x9.2.1,x9.2.2.1,x18.1,x14.1,x19.1,()))<|
 A.l1 .b (A.cmp .geq x16.1 x17.1) fun x18=>
 A.cl KC KD (A.arith .add .i64 x12.1 (A.lit 1),x9.2.1,x9.2.2.1,x11.2.2.1,()) fun x19=>
 A.l1 .i x12.1 fun x20=>
 A.ret _ (x9.1,x20.1,x9.2.2.1,x18.1,x14.1,x19.1,())) fun x18=>
 A.inl _ (x18.1,x18.2.1,x18.2.2.1,x18.2.2.2.1,x18.q.1,x18.q.2.1,())) fun x3=>
 A.inl _ (x3.1,x3.2.1,x3.2.2.1,x3.2.2.2.1,x3.q.1,x3.q.2.1,())) (x.1,x.2.1,x.2.2.1,x0.1,x1.1,x.2.2.2.1,())
def Gu (A:Alg) (KC:Pt A mY) (KD:Ft A mY) (akH:Pt A SL) (akI:Ft A SL) (x:Tup A.ah [.l .i64]):Ot A BA:=
 A.l1 .i (A.len .i64 x.1) fun x0=>
 A.cl akH akI (A.conv .u64 x0.1,()) fun x1=>
 A.cl KC KD (A.lit 0,x0.1,x1.1,x.1,()) fun x2=>
 A.ret _ (x2.1,())
def Od (A:Alg) (lD:Pt A iD) (lF:Ft A iD) (Gc:Pt A tQ) (Gd:Ft A tQ) (XH:Pt A zy) (XI:Ft A zy) (akJ:Pt A IZ) (akK:Ft A IZ) (ahA:Pt A BA) (ahB:Ft A BA) (x:Tup A.ah [.x .poly,.x .poly]):Ot A zB:=
 A.l1 .b (A.bl false) fun x0=>
 A.cl lD lF (x.1,()) fun x1=>
 A.cg (A.aB (A.aB x1.1)) lD lF (x.2.1,()) fun x2=>
 A.cond (A.au (A.aB x1.1) (A.bl true) (A.aB x2.1)) (A.l1 .b (A.bl false) fun x3=>
 A.ret _ (x3.1,A.bX .mono,()))<|
 A.iter [.l .mono,.i,.i,.x .poly,.l .mono] (fun x3=>
 A.cond (A.cmp .lss x3.2.2.1 x3.2.1) (A.bd .mono x3.1 x3.2.2.1<|
 A.l1 (.x .mono) (A.get .mono x3.1 x3.2.2.1) fun x4=>
 A.iter [.l .mono,.i,.i,.l .mono,.i,.i,.x .poly,.l .mono,.x .mono] (fun x5=>
 A.cond (A.cmp .lss x5.q.2.1 x5.q.1) (A.bd .mono x5.2.2.2.1 x5.q.2.1<|
 A.l1 (.x .mono) (A.get .mono x5.2.2.2.1 x5.q.2.1) fun x6=>
 A.l1 (.l .ints) (A.lst .ints [A.mkX .ints (A.fL .mono 1 .i64 x5.o.1,()),A.mkX .ints (A.fL .mono 1 .i64 x6.1,())]) fun x7=>
 A.cl akJ akK (x7.1,()) fun x8=>
 A.cl ahA ahB (x8.1,()) fun x9=>
 A.cl Gc Gd (A.arith .mul .i64 (A.fI .mono 0 x5.o.1) (A.fI .mono 0 x6.1),()) fun x10=>
 A.l1 (.l .mono) (A.lst .mono [A.mkX .mono (x10.1,x9.1,())]) fun x11=>
 A.chk (A.cmp .leq (A.addN (A.len .mono x5.q.2.2.2.1) (A.len .mono x11.1)) (A.lit 1073741824))<|
 A.l1 (.l .mono) (A.app .mono x5.q.2.2.2.1 x11.1) fun x12=>
 A.inl _ (x5.1,x5.2.1,x5.2.2.1,x5.2.2.2.1,x5.q.1,A.arith .add .i64 x5.q.2.1 (A.lit 1),x5.q.2.2.1,x12.1,x5.o.1,()))<|
 A.inr _<|A.inl _ (x5.1,x5.2.1,A.arith .add .i64 x5.2.2.1 (A.lit 1),x5.q.2.2.1,x5.q.2.2.2.1,())) (x3.1,x3.2.1,x3.2.2.1,A.fL .poly 0 .mono x3.2.2.2.1,A.len .mono (A.fL .poly 0 .mono x3.2.2.2.1),A.lit 0,x3.2.2.2.1,x3.q.1,x4.1,()))<|
 A.inr _<|A.cl XH XI (x3.q.1,()) fun x4=>
 A.l1 .b x4.1 fun x5=>
 A.ret _ (x5.1,x4.2.2.1,())) (A.fL .poly 0 .mono x.1,A.len .mono (A.fL .poly 0 .mono x.1),A.lit 0,x.2.1,A.bX .mono,())
def Oe (A:Alg) (lD:Pt A iD) (lF:Ft A iD) (Og:Pt A tO) (Oh:Ft A tO) (rA:Pt A iT) (rC:Ft A iT) (XJ:Pt A zB) (XK:Ft A zB) (x:Tup A.ah [.x .poly,.i]):Ot A I4:=
 A.cl lD lF (x.1,()) fun x0=>
 A.cg (A.aB (A.aB x0.1)) rA rC (x.2.1,()) fun x1=>
 A.cond (A.au (A.aB x0.1) (A.bl true) (A.aB x1.1)) (A.ret _ (A.bX .mono,()))<|
 A.cl Og Oh (x.2.1,()) fun x2=>
 A.cl XJ XK (x.1,A.mkX .poly (x2.1,()),()) fun x3=>
 A.l1 .b x3.1 fun x4=>
 A.ret _ (x3.2.1,())
def Oi (A:Alg) (l5:Pt A iR) (l6:Ft A iR) (Og:Pt A tO) (Oh:Ft A tO) (XL:Pt A zu) (XM:Ft A zu) (adi:Pt A IY) (adk:Ft A IY) (XJ:Pt A zB) (XK:Ft A zB) (akL:Pt A I4) (akM:Ft A I4) (Nl:Pt A y7) (Nn:Ft A y7) (x:Tup A.ah [.i,.x .poly,.x .poly]):Ot A I5:=
 A.l1 .b (A.bl false) fun x0=>
 A.l1 .b (A.cmp .eql x.1 (A.lit 1)) fun x1=>
 A.cond x1.1 (A.cl adi adk (x.2.1,x.2.2.1,()) fun x2=>
 A.l1 .b x2.1 fun x3=>
 A.ret _ (A.mkX .poly (x2.2.1,()),x3.1,()))<|
 A.l1 .b (A.cmp .eql x.1 (A.lit 2)) fun x2=>
 A.cond x2.1 (A.cl akL akM (x.2.2.1,A.lit 65535,()) fun x3=>
 A.cl adi adk (x.2.1,A.mkX .poly (x3.1,()),()) fun x4=>
 A.l1 .b x4.1 fun x5=>
 A.ret _ (A.mkX .poly (x4.2.1,()),x5.1,()))<|
 A.l1 .b (A.cmp .eql x.1 (A.lit 3)) fun x3=>
 A.cond x3.1 (A.cl XJ XK (x.2.1,x.2.2.1,()) fun x4=>
 A.l1 .b x4.1 fun x5=>
 A.ret _ (A.mkX .poly (x4.2.1,()),x5.1,()))<|
 A.cl Nl Nn (x.2.1,()) fun x4=>
 A.l1 .i x4.1 fun x5=>
 A.l1 .b x4.2.1 fun x6=>
 A.cl Nl Nn (x.2.2.1,()) fun x7=>
 A.l1 .i x7.1 fun x8=>
 A.l1 .b x7.2.1 fun x9=>
 A.l1 .b (A.au x6.1 x9.1 (A.bl false)) fun x10=>
 A.cond x10.1 (A.cl XL XM (x.1,x5.1,x8.1,()) fun x11=>
 A.cl Og Oh (x11.1,()) fun x12=>
 A.l1 .b (A.bl true) fun x13=>
 A.ret _ (A.mkX .poly (x12.1,()),x13.1,()))<|
 A.cl l5 l6 (x.2.1,x.2.2.1,()) fun x11=>
 A.l1 .b (A.au x11.1 (A.cmp .eql x.1 (A.lit 4)) (A.bl false)) fun x12=>
 A.cond x12.1 (A.l1 (.x .poly) x.2.1 fun x13=>
 A.l1 .b (A.bl true) fun x14=>
 A.ret _ (x13.1,x14.1,()))<|
 A.cl l5 l6 (x.2.1,x.2.2.1,()) fun x13=>
 A.l1 .b x13.1 fun x14=>
 A.cond x14.1 (A.l1 .b (A.bl true) fun x15=>
 A.ret _ (A.mkX .poly (A.bX .mono,()),x15.1,()))<|
 A.bind [.i,.i,.b,.x .poly] (A.cond x6.1 (A.l1 (.x .poly) x.2.2.1 fun x15=>
 A.l1 .i x5.1 fun x16=>
 A.l1 .b (A.bl true) fun x17=>
 A.ret _ (x.1,x16.1,x17.1,x15.1,()))<|
 A.ret _ (x.1,x8.1,x9.1,x.2.1,())) fun x15=>
 A.l1 .b (A.au (A.au x15.2.2.1 (A.cmp .eql x15.1 (A.lit 4)) (A.bl false)) (A.cmp .eql x15.2.1 (A.lit 0)) (A.bl false)) fun x16=>
 A.cond x16.1 (A.l1 .b (A.bl true) fun x17=>
 A.ret _ (A.mkX .poly (A.bX .mono,()),x17.1,()))<|
 A.l1 .b (A.au x15.2.2.1 (A.au (A.au (A.cmp .eql x15.1 (A.lit 4)) (A.cmp .eql x15.2.1 (A.lit 65535)) (A.bl false)) (A.bl true) (A.au (A.cmp .eql x15.1 (A.lit 5)) (A.cmp .eql x15.2.1 (A.lit 0)) (A.bl false))) (A.bl false)) fun x17=>
 A.cond x17.1 (A.l1 (.x .poly) x15.2.2.2.1 fun x18=>
 A.l1 .b (A.bl true) fun x19=>
 A.ret _ (x18.1,x19.1,()))<|
 A.l1 .b (A.bl false) fun x18=>
 A.ret _ (A.mkX .poly (A.bX .mono,()),x18.1,())
def Oj (A:Alg) (Ng:Pt A tK) (Nh:Ft A tK) (akN:Pt A I5) (akO:Ft A I5) (XD:Pt A zm) (XE:Ft A zm) (XB:Pt A zn) (XC:Ft A zn) (x:Tup A.ah [.x .tab,.i,.x .poly,.x .poly]):Ot A I6:=
 A.l1 .b (A.bl false) fun x0=>
 A.cl akN akO (x.2.1,x.2.2.1,x.2.2.2.1,()) fun x1=>
 A.l1 (.x .poly) x1.1 fun x2=>
 A.l1 .b x1.2.1 fun x3=>
 A.cond x3.1 (A.l1 (.x .tab) x.1 fun x4=>
 A.l1 (.x .poly) x2.1 fun x5=>
 A.l1 .b (A.bl true) fun x6=>
 A.ret _ (x4.1,x5.1,x6.1,()))<|
 A.cg (A.cmp .neq x.2.1 (A.lit 2)) Ng Nh (x.2.2.1,x.2.2.2.1,()) fun x4=>
 A.bind [.i,.x .tab,.x .poly,.x .poly] (A.cond (A.au (A.cmp .neq x.2.1 (A.lit 2)) (A.cmp .gtr x4.1 (A.lit 0)) (A.bl false)) (A.l1 (.x .poly) x.2.2.2.1 fun x5=>
 A.l1 (.x .poly) x.2.2.1 fun x6=>
 A.ret _ (x.2.1,x.1,x5.1,x6.1,()))<|
 A.ret _ (x.2.1,x.1,x.2.2.1,x.2.2.2.1,())) fun x5=>
 A.cl XD XE (x5.2.1,A.mkX .atom (A.lit 4,x5.1,A.fL .poly 0 .mono x5.2.2.1,A.fL .poly 0 .mono x5.2.2.2.1,()),()) fun x6=>
 A.l1 (.x .tab) x6.1 fun x7=>
 A.l1 .i x6.2.1 fun x8=>
 A.cond (A.cmp .lss x8.1 (A.lit 0)) (A.l1 .b (A.bl false) fun x9=>
 A.ret _ (A.mkX .tab (A.bX .atom,()),A.mkX .poly (A.bX .mono,()),x9.1,()))<|
 A.cl XB XC (x8.1,()) fun x9=>
 A.l1 (.x .tab) x7.1 fun x10=>
 A.l1 .b (A.bl true) fun x11=>
 A.ret _ (x10.1,A.mkX .poly (x9.1,()),x11.1,())
def Ol (A:Alg) (zF:Pt A tL) (zG:Ft A tL) (x:Tup A.ah [.x .tab]):Ot A zC:=
 A.iter [.l .atom,.i,.i,.l .atom] (fun x0=>
 A.cond (A.cmp .lss x0.2.2.1 x0.2.1) (A.bd .atom x0.1 x0.2.2.1<|
 A.l1 (.x .atom) (A.get .atom x0.1 x0.2.2.1) fun x1=>
 A.cl zF zG (A.mkX .poly (A.fL .atom 2 .mono x1.1,()),()) fun x2=>
 A.cl zF zG (A.mkX .poly (A.fL .atom 3 .mono x1.1,()),()) fun x3=>
 A.l1 (.l .atom) (A.lst .atom [A.mkX .atom (A.fI .atom 0 x1.1,A.fI .atom 1 x1.1,x2.1,x3.1,())]) fun x4=>
 A.chk (A.cmp .leq (A.addN (A.len .atom x0.2.2.2.1) (A.len .atom x4.1)) (A.lit 1073741824))<|
 A.l1 (.l .atom) (A.app .atom x0.2.2.2.1 x4.1) fun x5=>
 A.inl _ (x0.1,x0.2.1,A.arith .add .i64 x0.2.2.1 (A.lit 1),x5.1,()))<|
 A.inr _<|A.ret _ (x0.2.2.2.1,())) (A.fL .tab 0 .atom x.1,A.len .atom (A.fL .tab 0 .atom x.1),A.lit 0,A.bX .atom,())
def Om (A:Alg) (Xz:Pt A zl) (XA:Ft A zl) (Jg:Pt A tN) (Jh:Ft A tN) (akP:Pt A IV) (akQ:Ft A IV) (Xx:Pt A zi) (Xy:Ft A zi) (Og:Pt A tO) (Oh:Ft A tO) (akR:Pt A IC) (akS:Ft A IC) (akT:Pt A IJ) (akU:Ft A IJ) (XO:Pt A zC) (XP:Ft A zC) (akV:Pt A I6) (akW:Ft A I6) (S9:Pt A zo) (Ta:Ft A zo) (XQ:Pt A zq) (XR:Ft A zq) (akX:Pt A IW) (akY:Ft A IW) (x:Tup A.ah [.x .tab,.x .blk]):Ot A I7:=
 A.cl akT akU (x.1,()) fun x0=>
 A.cg (A.aB (A.au (A.aB x0.1) (A.bl true) (A.cmp .gtr (A.len .atom (A.fL .tab 0 .atom x.1)) (A.lit 100)))) Jg Jh (x.2.1,()) fun x1=>
 A.cond (A.au (A.au (A.aB x0.1) (A.bl true) (A.cmp .gtr (A.len .atom (A.fL .tab 0 .atom x.1)) (A.lit 100))) (A.bl true) (A.aB x1.1)) (A.ret _ (A.mkX .tab (A.bX .atom,()),A.mkX .sym (A.bX .ev,A.bX .poly,A.lit 0,A.bX .mono,A.bX .mono,A.lit 0,()),()))<|
 A.cl XQ XR (A.fL .tab 0 .atom x.1,A.bl false,()) fun x2=>
 A.chk (A.cmp .eql (A.len .iop (A.fL .blk 2 .iop x.2.1)) (A.len .iop (A.fL .blk 2 .iop x.2.1)))<|
 A.chk (A.cmp .leq (A.lit 0) (A.len .iop (A.fL .blk 2 .iop x.2.1)))<|
 A.chk (A.cmp .leq (A.len .iop (A.fL .blk 2 .iop x.2.1)) (A.lit 1073741824))<|
 A.l1 (.l .poly) (A.rep .poly (A.len .iop (A.fL .blk 2 .iop x.2.1)) (A.mkX .poly (A.bX .mono,()))) fun x3=>
 A.l1 .i (A.lit 0) fun x4=>
 A.l1 .i (A.lit 0) fun x5=>
 A.iter [.i,.i,.l .iop,.i,.i,.x .blk,.i,.i,.l .atom,.b,.i,.i,.l .poly,.l .ev,.l .poly] (fun x6=>
 A.cond (A.cmp .lss x6.q.1 x6.2.2.2.1) (A.bd .iop x6.2.2.1 x6.q.1<|
 A.l1 .i x6.q.1 fun x7=>
 A.l1 (.x .iop) (A.get .iop x6.2.2.1 x6.q.1) fun x8=>
 A.cl Xx Xy (x8.1,()) fun x9=>
 A.l1 .b x9.1 fun x10=>
 A.l1 .b x9.2.1 fun x11=>
 A.l1 .b x9.2.2.1 fun x12=>
 A.l1 .b x9.2.2.2.1 fun x13=>
 A.bind [.i,.i,.i,.b,.l .iop,.i,.i,.x .blk,.i,.i,.l .atom,.b,.i,.i,.l .poly,.x .iop,.x .poly,.l .ev,.l .poly] (A.cond x10.1 (A.bd .poly x6.o.q.1 (A.fI .iop 1 x8.1)<|
 A.bd .poly x6.o.q.1 (A.fI .iop 1 x8.1)<|
 A.l1 (.x .poly) (A.get .poly x6.o.q.1 (A.fI .iop 1 x8.1)) fun x14=>
 A.ret _ (x6.1,x6.2.1,x7.1,x11.1,x6.2.2.1,x6.2.2.2.1,x6.q.1,x6.q.2.1,x6.q.2.2.1,x6.q.2.2.2.1,x6.o.1,x6.o.2.1,x6.o.2.2.1,x6.o.2.2.2.1,x6.o.q.1,x8.1,x14.1,x6.o.q.2.1,x6.o.q.2.2.1,()))<|
 A.ret _ (x6.1,x6.2.1,x7.1,x11.1,x6.2.2.1,x6.2.2.2.1,x6.q.1,x6.q.2.1,x6.q.2.2.1,x6.q.2.2.2.1,x6.o.1,x6.o.2.1,x6.o.2.2.1,x6.o.2.2.2.1,x6.o.q.1,x8.1,A.mkX .poly (A.bX .mono,()),x6.o.q.2.1,x6.o.q.2.2.1,())) fun x14=>
 A.bind [.i,.i,.i,.l .iop,.i,.i,.x .blk,.i,.i,.l .atom,.b,.i,.i,.l .poly,.x .iop,.x .poly,.x .poly,.l .ev,.l .poly] (A.cond x14.2.2.2.1 (A.bd .poly x14.o.q.2.2.1 (A.fI .iop 2 x14.o.q.2.2.2.1)<|
 A.bd .poly x14.o.q.2.2.1 (A.fI .iop 2 x14.o.q.2.2.2.1)<|
 A.l1 (.x .poly) (A.get .poly x14.o.q.2.2.1 (A.fI .iop 2 x14.o.q.2.2.2.1)) fun x15=>
 A.ret _ (x14.1,x14.2.1,x14.2.2.1,x14.q.1,x14.q.2.1,x14.q.2.2.1,x14.q.2.2.2.1,x14.o.1,x14.o.2.1,x14.o.2.2.1,x14.o.2.2.2.1,x14.o.q.1,x14.o.q.2.1,x14.o.q.2.2.1,x14.o.q.2.2.2.1,x14.o.o.1,x15.1,x14.o.o.2.1,x14.o.o.2.2.1,()))<|
 A.ret _ (x14.1,x14.2.1,x14.2.2.1,x14.q.1,x14.q.2.1,x14.q.2.2.1,x14.q.2.2.2.1,x14.o.1,x14.o.2.1,x14.o.2.2.1,x14.o.2.2.2.1,x14.o.q.1,x14.o.q.2.1,x14.o.q.2.2.1,x14.o.q.2.2.2.1,x14.o.o.1,A.mkX .poly (A.bX .mono,()),x14.o.o.2.1,x14.o.o.2.2.1,())) fun x15=>
 A.cl akP akQ (x15.o.q.2.2.1,()) fun x16=>
 A.bind [.i,.i,.i,.l .iop,.i,.i,.x .blk,.i,.i,.l .atom,.b,.i,.i,.l .poly,.x .iop,.x .poly,.x .poly,.l .ev,.l .poly] (A.cond x16.1 (A.bind [.i,.i,.i,.l .iop,.i,.i,.x .blk,.i,.i,.l .atom,.b,.i,.i,.l .poly,.x .iop,.x .poly,.x .poly,.i,.i,.l .mono,.l .mono,.l .ev,.l .poly,.l .poly] (A.cond (A.au (A.cmp .eql (A.fI .iop 0 x15.o.q.2.2.1) (A.lit 4)) (A.bl true) (A.cmp .eql (A.fI .iop 0 x15.o.q.2.2.1) (A.lit 5))) (A.cl akX akY (x15.o.o.2.2.1,()) fun x17=>
 A.ret _ (x15.1,x15.2.1,x15.2.2.1,x15.2.2.2.1,x15.q.1,x15.q.2.1,x15.q.2.2.1,x15.q.2.2.2.1,x15.o.1,x15.o.2.1,x15.o.2.2.1,x15.o.2.2.2.1,x15.o.q.1,x15.o.q.2.1,x15.o.q.2.2.1,x15.o.q.2.2.2.1,x15.o.o.1,A.fI .iop 0 x15.o.q.2.2.1,A.fI .iop 4 x15.o.q.2.2.1,A.fL .poly 0 .mono x15.o.q.2.2.2.1,A.fL .poly 0 .mono x15.o.o.1,x15.o.o.2.1,x17.1,x17.2.1,()))<|
 A.ret _ (x15.1,x15.2.1,x15.2.2.1,x15.2.2.2.1,x15.q.1,x15.q.2.1,x15.q.2.2.1,x15.q.2.2.2.1,x15.o.1,x15.o.2.1,x15.o.2.2.1,x15.o.2.2.2.1,x15.o.q.1,x15.o.q.2.1,x15.o.q.2.2.1,x15.o.q.2.2.2.1,x15.o.o.1,A.fI .iop 0 x15.o.q.2.2.1,A.fI .iop 4 x15.o.q.2.2.1,A.fL .poly 0 .mono x15.o.q.2.2.2.1,A.fL .poly 0 .mono x15.o.o.1,x15.o.o.2.1,x15.o.o.2.2.1,A.bX .poly,())) fun x17=>
 A.l1 (.l .ev) (A.lst .ev [A.mkX .ev (x17.o.o.2.1,x17.o.o.2.2.1,x17.o.o.2.2.2.1,x17.o.o.q.1,x17.o.o.q.2.2.2.1,())]) fun x18=>
 A.chk (A.cmp .leq (A.addN (A.len .ev x17.o.o.q.2.1) (A.len .ev x18.1)) (A.lit 1073741824))<|
 A.l1 (.l .ev) (A.app .ev x17.o.o.q.2.1 x18.1) fun x19=>
 A.ret _ (x17.1,x17.2.1,x17.2.2.1,x17.2.2.2.1,x17.q.1,x17.q.2.1,x17.q.2.2.1,x17.q.2.2.2.1,x17.o.1,x17.o.2.1,x17.o.2.2.1,x17.o.2.2.2.1,x17.o.q.1,x17.o.q.2.1,x17.o.q.2.2.1,x17.o.q.2.2.2.1,x17.o.o.1,x19.1,x17.o.o.q.2.2.1,()))<|
 A.ret _ (x15.1,x15.2.1,x15.2.2.1,x15.2.2.2.1,x15.q.1,x15.q.2.1,x15.q.2.2.1,x15.q.2.2.2.1,x15.o.1,x15.o.2.1,x15.o.2.2.1,x15.o.2.2.2.1,x15.o.q.1,x15.o.q.2.1,x15.o.q.2.2.1,x15.o.q.2.2.2.1,x15.o.o.1,x15.o.o.2.1,x15.o.o.2.2.1,())) fun x17=>
 A.l1 .b (A.cmp .eql (A.fI .iop 0 x17.o.q.2.2.1) (A.lit 1)) fun x18=>
 A.lu [.i,.i,.l .iop,.i,.i,.x .blk,.i,.i,.l .atom,.b,.i,.i,.l .poly,.l .ev,.l .poly] (A.cond x18.1 (A.cl Og Oh (A.fI .iop 3 x17.o.q.2.2.1,()) fun x19=>
 A.bd .poly x17.o.q.2.1 x17.2.2.1<|
 A.bd .poly x17.o.q.2.1 x17.2.2.1<|
 A.inl _ (x17.1,x17.2.1,x17.2.2.2.1,x17.q.1,x17.q.2.1,x17.q.2.2.1,x17.q.2.2.2.1,x17.o.1,x17.o.2.1,x17.o.2.2.1,x17.o.2.2.2.1,x17.o.q.1,A.set .poly x17.o.q.2.1 x17.2.2.1 (A.mkX .poly (x19.1,())),x17.o.o.2.1,x17.o.o.2.2.1,()))<|
 A.l1 .b (A.cmp .eql (A.fI .iop 0 x17.o.q.2.2.1) (A.lit 2)) fun x19=>
 A.lu [.i,.i,.l .iop,.i,.i,.x .blk,.i,.i,.l .atom,.b,.i,.i,.l .poly,.l .ev,.l .poly] (A.cond x19.1 (A.bd .poly x17.o.o.2.2.1 (A.fI .iop 3 x17.o.q.2.2.1)<|
 A.bd .poly x17.o.o.2.2.1 (A.fI .iop 3 x17.o.q.2.2.1)<|
 A.bd .poly x17.o.q.2.1 x17.2.2.1<|
 A.bd .poly x17.o.q.2.1 x17.2.2.1<|
 A.l1 (.x .poly) (A.get .poly x17.o.o.2.2.1 (A.fI .iop 3 x17.o.q.2.2.1)) fun x20=>
 A.inl _ (x17.1,x17.2.1,x17.2.2.2.1,x17.q.1,x17.q.2.1,x17.q.2.2.1,x17.q.2.2.2.1,x17.o.1,x17.o.2.1,x17.o.2.2.1,x17.o.2.2.2.1,x17.o.q.1,A.set .poly x17.o.q.2.1 x17.2.2.1 x20.1,x17.o.o.2.1,x17.o.o.2.2.1,()))<|
 A.l1 .b (A.cmp .eql (A.fI .iop 0 x17.o.q.2.2.1) (A.lit 3)) fun x20=>
 A.lu [.i,.i,.l .iop,.i,.i,.x .blk,.i,.i,.l .atom,.b,.i,.i,.l .poly,.l .ev,.l .poly] (A.cond x20.1 (A.cl akV akW (A.mkX .tab (x17.o.2.1,()),A.fI .iop 3 x17.o.q.2.2.1,x17.o.q.2.2.2.1,x17.o.o.1,()) fun x21=>
 A.l1 (.x .tab) x21.1 fun x22=>
 A.l1 (.x .poly) x21.2.1 fun x23=>
 A.l1 .b x21.2.2.1 fun x24=>
 A.cond (A.aB x24.1) (A.inr _<|A.inr _<|A.inr _<|A.inr _<|A.ret _ (A.mkX .tab (A.bX .atom,()),A.mkX .sym (A.bX .ev,A.bX .poly,A.lit 0,A.bX .mono,A.bX .mono,A.lit 0,()),()))<|
 A.l1 (.x .tab) x22.1 fun x25=>
 A.bd .poly x17.o.q.2.1 x17.2.2.1<|
 A.bd .poly x17.o.q.2.1 x17.2.2.1<|
 A.l1 (.x .poly) x23.1 fun x26=>
 A.inl _ (x17.1,x17.2.1,x17.2.2.2.1,x17.q.1,x17.q.2.1,x17.q.2.2.1,x17.q.2.2.2.1,x17.o.1,A.fL .tab 0 .atom x25.1,x17.o.2.2.1,x17.o.2.2.2.1,x17.o.q.1,A.set .poly x17.o.q.2.1 x17.2.2.1 x26.1,x17.o.o.2.1,x17.o.o.2.2.1,()))<|
 A.l1 .b (A.cmp .eql (A.fI .iop 0 x17.o.q.2.2.1) (A.lit 4)) fun x21=>
 A.bind [.i,.i,.l .iop,.i,.i,.x .blk,.i,.i,.l .atom,.b,.i,.i,.l .poly,.l .ev,.l .poly] (A.cond x21.1 (A.cl S9 Ta (A.lit 2,x17.1,x17.o.2.1,x17.o.2.2.1,()) fun x22=>
 A.bd .poly x17.o.q.2.1 x17.2.2.1<|
 A.bd .poly x17.o.q.2.1 x17.2.2.1<|
 A.l1 (.x .poly) x22.1 fun x23=>
 A.l1 .i (A.arith .add .i64 x17.1 (A.lit 1)) fun x24=>
 A.ret _ (x24.1,x17.2.1,x17.2.2.2.1,x17.q.1,x17.q.2.1,x17.q.2.2.1,x17.q.2.2.2.1,x17.o.1,x22.2.1,x22.2.2.1,x17.o.2.2.2.1,x17.o.q.1,A.set .poly x17.o.q.2.1 x17.2.2.1 x23.1,x17.o.o.2.1,x17.o.o.2.2.1,()))<|
 A.l1 .b (A.cmp .eql (A.fI .iop 0 x17.o.q.2.2.1) (A.lit 6)) fun x22=>
 A.bind [.i,.i,.l .iop,.i,.i,.x .blk,.i,.i,.l .atom,.b,.i,.i,.l .poly,.l .ev,.l .poly] (A.cond x22.1 (A.cl S9 Ta (A.lit 3,x17.2.1,x17.o.2.1,x17.o.2.2.1,()) fun x23=>
 A.bd .poly x17.o.q.2.1 x17.2.2.1<|
 A.bd .poly x17.o.q.2.1 x17.2.2.1<|
 A.l1 (.x .poly) x23.1 fun x24=>
 A.l1 .i (A.arith .add .i64 x17.2.1 (A.lit 1)) fun x25=>
 A.ret _ (x17.1,x25.1,x17.2.2.2.1,x17.q.1,x17.q.2.1,x17.q.2.2.1,x17.q.2.2.2.1,x17.o.1,x23.2.1,x23.2.2.1,x17.o.2.2.2.1,x17.o.q.1,A.set .poly x17.o.q.2.1 x17.2.2.1 x24.1,x17.o.o.2.1,x17.o.o.2.2.1,()))<|
 A.l1 .b (A.cmp .eql (A.fI .iop 0 x17.o.q.2.2.1) (A.lit 8)) fun x23=>
 A.bind [.i,.i,.l .iop,.i,.i,.x .blk,.i,.i,.l .atom,.b,.i,.i,.l .poly,.l .ev,.l .poly] (A.cond x23.1 (A.bd .poly x17.o.o.2.2.1 (A.fI .iop 3 x17.o.q.2.2.1)<|
 A.bd .poly x17.o.o.2.2.1 (A.fI .iop 3 x17.o.q.2.2.1)<|
 A.l1 (.x .poly) x17.o.q.2.2.2.1 fun x24=>
 A.ret _ (x17.1,x17.2.1,x17.2.2.2.1,x17.q.1,x17.q.2.1,x17.q.2.2.1,x17.q.2.2.2.1,x17.o.1,x17.o.2.1,x17.o.2.2.1,x17.o.2.2.2.1,x17.o.q.1,x17.o.q.2.1,x17.o.o.2.1,A.set .poly x17.o.o.2.2.1 (A.fI .iop 3 x17.o.q.2.2.1) x24.1,()))<|
 A.ret _ (x17.1,x17.2.1,x17.2.2.2.1,x17.q.1,x17.q.2.1,x17.q.2.2.1,x17.q.2.2.2.1,x17.o.1,x17.o.2.1,x17.o.2.2.1,x17.o.2.2.2.1,x17.o.q.1,x17.o.q.2.1,x17.o.o.2.1,x17.o.o.2.2.1,())) fun x24=>
 A.ret _ (x24.1,x24.2.1,x24.2.2.1,x24.2.2.2.1,x24.q.1,x24.q.2.1,x24.q.2.2.1,x24.q.2.2.2.1,x24.o.1,x24.o.2.1,x24.o.2.2.1,x24.o.2.2.2.1,x24.o.q.1,x24.o.q.2.1,x24.o.q.2.2.1,())) fun x23=>
 A.ret _ (x23.1,x23.2.1,x23.2.2.1,x23.2.2.2.1,x23.q.1,x23.q.2.1,x23.q.2.2.1,x23.q.2.2.2.1,x23.o.1,x23.o.2.1,x23.o.2.2.1,x23.o.2.2.2.1,x23.o.q.1,x23.o.q.2.1,x23.o.q.2.2.1,())) fun x22=>
 A.inl _ (x22.1,x22.2.1,x22.2.2.1,x22.2.2.2.1,x22.q.1,x22.q.2.1,x22.q.2.2.1,x22.q.2.2.2.1,x22.o.1,x22.o.2.1,x22.o.2.2.1,x22.o.2.2.2.1,x22.o.q.1,x22.o.q.2.1,x22.o.q.2.2.1,())) fun x21=>
 A.inl _ (x21.1,x21.2.1,x21.2.2.1,x21.2.2.2.1,x21.q.1,x21.q.2.1,x21.q.2.2.1,x21.q.2.2.2.1,x21.o.1,x21.o.2.1,x21.o.2.2.1,x21.o.2.2.2.1,x21.o.q.1,x21.o.q.2.1,x21.o.q.2.2.1,())) fun x20=>
 A.inl _ (x20.1,x20.2.1,x20.2.2.1,x20.2.2.2.1,x20.q.1,x20.q.2.1,x20.q.2.2.1,x20.q.2.2.2.1,x20.o.1,x20.o.2.1,x20.o.2.2.1,x20.o.2.2.2.1,x20.o.q.1,x20.o.q.2.1,x20.o.q.2.2.1,())) fun x19=>
 A.inl _ (x19.1,x19.2.1,x19.2.2.1,x19.2.2.2.1,A.arith .add .i64 x19.q.1 (A.lit 1),x19.q.2.1,x19.q.2.2.1,x19.q.2.2.2.1,x19.o.1,x19.o.2.1,x19.o.2.2.1,x19.o.2.2.2.1,x19.o.q.1,x19.o.q.2.1,x19.o.q.2.2.1,()))<|
 A.inr _<|A.cl Xz XA (x6.q.2.1,()) fun x7=>
 A.l1 .b x7.1 fun x8=>
 A.l1 .b x7.2.1 fun x9=>
 A.l1 .b x7.2.2.1 fun x10=>
 A.bind [.b,.x .blk,.i,.i,.l .atom,.b,.i,.l .mono,.i,.l .poly,.l .ev,.l .poly] (A.cond x8.1 (A.bd .poly x6.o.q.1 (A.fI .blk 4 x6.q.2.1)<|
 A.bd .poly x6.o.q.1 (A.fI .blk 4 x6.q.2.1)<|
 A.l1 (.x .poly) (A.get .poly x6.o.q.1 (A.fI .blk 4 x6.q.2.1)) fun x11=>
 A.ret _ (x9.1,x6.q.2.1,x6.q.2.2.1,x6.q.2.2.2.1,x6.o.1,x6.o.2.1,x6.o.2.2.1,A.fL .poly 0 .mono x11.1,x6.o.2.2.2.1,x6.o.q.1,x6.o.q.2.1,x6.o.q.2.2.1,()))<|
 A.ret _ (x9.1,x6.q.2.1,x6.q.2.2.1,x6.q.2.2.2.1,x6.o.1,x6.o.2.1,x6.o.2.2.1,A.bX .mono,x6.o.2.2.2.1,x6.o.q.1,x6.o.q.2.1,x6.o.q.2.2.1,())) fun x11=>
 A.bind [.x .blk,.i,.i,.l .atom,.b,.i,.l .mono,.l .mono,.i,.l .ev,.l .poly] (A.cond x11.1 (A.bd .poly x11.o.2.1 (A.fI .blk 5 x11.2.1)<|
 A.bd .poly x11.o.2.1 (A.fI .blk 5 x11.2.1)<|
 A.l1 (.x .poly) (A.get .poly x11.o.2.1 (A.fI .blk 5 x11.2.1)) fun x12=>
 A.ret _ (x11.2.1,x11.2.2.1,x11.2.2.2.1,x11.q.1,x11.q.2.1,x11.q.2.2.1,x11.q.2.2.2.1,A.fL .poly 0 .mono x12.1,x11.o.1,x11.o.2.2.1,x11.o.2.2.2.1,()))<|
 A.ret _ (x11.2.1,x11.2.2.1,x11.2.2.2.1,x11.q.1,x11.q.2.1,x11.q.2.2.1,x11.q.2.2.2.1,A.bX .mono,x11.o.1,x11.o.2.2.1,x11.o.2.2.2.1,())) fun x12=>
 A.cond x12.q.1 (A.ret _ (A.mkX .tab (A.bX .atom,()),A.mkX .sym (A.bX .ev,A.bX .poly,A.lit 0,A.bX .mono,A.bX .mono,A.lit 0,()),()))<|
 A.cl XO XP (A.mkX .tab (x12.2.2.2.1,()),()) fun x13=>
 A.cl akR akS (A.mkX .sym (x12.o.2.1,x12.o.2.2.1,x12.q.2.1,x12.q.2.2.1,x12.q.2.2.2.1,x12.o.1,()),A.arith .add .i64 (A.fI .blk 0 x12.1) (A.fI .blk 1 x12.1),()) fun x14=>
 A.l1 (.x .sym) x14.1 fun x15=>
 A.ret _ (A.mkX .tab (x13.1,()),x15.1,())) (x4.1,x5.1,A.fL .blk 2 .iop x.2.1,A.len .iop (A.fL .blk 2 .iop x.2.1),A.lit 0,x.2.1,A.lit 0,A.lit 0,x2.1,x2.2.1,A.fI .blk 3 x.2.1,A.fI .blk 6 x.2.1,x3.1,A.bX .ev,x2.2.2.1,())
def Gw (A:Alg) (x:Tup A.ah [.l .iop,.l .iop]):Ot A BD:=
 A.l1 .b (A.bl false) fun x0=>
 A.cond (A.cmp .neq (A.len .iop x.1) (A.len .iop x.2.1)) (A.rb (A.bl false))<|
 A.iter [.l .iop,.l .iop,.i,.i] (fun x1=>
 A.cond (A.cmp .lss x1.2.2.2.1 x1.2.2.1) (A.l1 .i x1.2.2.2.1 fun x2=>
 A.bd .iop x1.1 x2.1<|
 A.bd .iop x1.2.1 x2.1<|
 A.cond (A.aB (A.eqX .iop (A.get .iop x1.1 x2.1) (A.get .iop x1.2.1 x2.1))) (A.l1 .b (A.bl false) fun x3=>
 A.inr _<|A.ret _ (x3.1,()))<|
 A.inl _ (x1.1,x1.2.1,x1.2.2.1,A.arith .add .i64 x1.2.2.2.1 (A.lit 1),()))<|
 A.inr _<|A.rb (A.bl true)) (x.1,x.2.1,A.len .iop x.1,A.lit 0,())
def Oo (A:Alg) (ahC:Pt A BD) (ahD:Ft A BD) (x:Tup A.ah [.x .blk,.x .blk]):Ot A I8:=
 A.l1 .b (A.bl false) fun x0=>
 A.cg (A.au (A.au (A.au (A.au (A.au (A.cmp .eql (A.fI .blk 0 x.1) (A.fI .blk 0 x.2.1)) (A.cmp .eql (A.fI .blk 1 x.1) (A.fI .blk 1 x.2.1)) (A.bl false)) (A.cmp .eql (A.fI .blk 3 x.1) (A.fI .blk 3 x.2.1)) (A.bl false)) (A.cmp .eql (A.fI .blk 4 x.1) (A.fI .blk 4 x.2.1)) (A.bl false)) (A.cmp .eql (A.fI .blk 5 x.1) (A.fI .blk 5 x.2.1)) (A.bl false)) (A.cmp .eql (A.fI .blk 6 x.1) (A.fI .blk 6 x.2.1)) (A.bl false)) ahC ahD (A.fL .blk 2 .iop x.1,A.fL .blk 2 .iop x.2.1,()) fun x1=>
 A.rb (A.au (A.au (A.au (A.au (A.au (A.au (A.cmp .eql (A.fI .blk 0 x.1) (A.fI .blk 0 x.2.1)) (A.cmp .eql (A.fI .blk 1 x.1) (A.fI .blk 1 x.2.1)) (A.bl false)) (A.cmp .eql (A.fI .blk 3 x.1) (A.fI .blk 3 x.2.1)) (A.bl false)) (A.cmp .eql (A.fI .blk 4 x.1) (A.fI .blk 4 x.2.1)) (A.bl false)) (A.cmp .eql (A.fI .blk 5 x.1) (A.fI .blk 5 x.2.1)) (A.bl false)) (A.cmp .eql (A.fI .blk 6 x.1) (A.fI .blk 6 x.2.1)) (A.bl false)) x1.1 (A.bl false))
def Oq (A:Alg) (XO:Pt A zC) (XP:Ft A zC) (XQ:Pt A zq) (XR:Ft A zq) (x:Tup A.ah []):Ot A I9:=
 A.cl XQ XR (A.bX .atom,A.bl false,()) fun x0=>
 A.cl XO XP (A.mkX .tab (x0.1,()),()) fun x1=>
 A.ret _ (A.mkX .tab (x1.1,()),x0.2.2.1,())
def Ou (A:Alg) (l5:Pt A iR) (l6:Ft A iR) (x:Tup A.ah [.x .poly,.x .poly]):Ot A Ja:=
 A.l1 .b (A.bl false) fun x0=>
 A.cl l5 l6 (x.1,x.2.1,()) fun x1=>
 A.rb x1.1
def Gx (A:Alg) (akZ:Pt A Ja) (ak0:Ft A Ja) (x:Tup A.ah [.l .poly,.l .poly]):Ot A BF:=
 A.l1 .b (A.bl false) fun x0=>
 A.cond (A.cmp .neq (A.len .poly x.1) (A.len .poly x.2.1)) (A.rb (A.bl false))<|
 A.iter [.l .poly,.l .poly,.i,.i] (fun x1=>
 A.cond (A.cmp .lss x1.2.2.2.1 x1.2.2.1) (A.bd .poly x1.2.1 x1.2.2.2.1<|
 A.l1 .i x1.2.2.2.1 fun x2=>
 A.l1 (.x .poly) (A.get .poly x1.2.1 x1.2.2.2.1) fun x3=>
 A.bd .poly x1.1 x2.1<|
 A.l1 (.x .poly) (A.get .poly x1.1 x2.1) fun x4=>
 A.cl akZ ak0 (x3.1,x4.1,()) fun x5=>
 A.cond (A.aB x5.1) (A.l1 .b (A.bl false) fun x6=>
 A.inr _<|A.ret _ (x6.1,()))<|
 A.inl _ (x1.1,x1.2.1,x1.2.2.1,A.arith .add .i64 x1.2.2.2.1 (A.lit 1),()))<|
 A.inr _<|A.rb (A.bl true)) (x.2.1,x.1,A.len .poly x.1,A.lit 0,())
def Ov (A:Alg) (ahE:Pt A BF) (ahF:Ft A BF) (x:Tup A.ah [.l .poly,.l .poly]):Ot A zD:=
 A.l1 .b (A.bl false) fun x0=>
 A.cl ahE ahF (x.1,x.2.1,()) fun x1=>
 A.rb x1.1
def Ow (A:Alg) (l5:Pt A iR) (l6:Ft A iR) (XU:Pt A zD) (XV:Ft A zD) (x:Tup A.ah [.x .ev,.x .ev]):Ot A Jb:=
 A.l1 .b (A.bl false) fun x0=>
 A.cg (A.au (A.cmp .eql (A.fI .ev 0 x.1) (A.fI .ev 0 x.2.1)) (A.cmp .eql (A.fI .ev 1 x.1) (A.fI .ev 1 x.2.1)) (A.bl false)) l5 l6 (A.mkX .poly (A.fL .ev 2 .mono x.1,()),A.mkX .poly (A.fL .ev 2 .mono x.2.1,()),()) fun x1=>
 A.cg (A.au (A.au (A.cmp .eql (A.fI .ev 0 x.1) (A.fI .ev 0 x.2.1)) (A.cmp .eql (A.fI .ev 1 x.1) (A.fI .ev 1 x.2.1)) (A.bl false)) x1.1 (A.bl false)) l5 l6 (A.mkX .poly (A.fL .ev 3 .mono x.1,()),A.mkX .poly (A.fL .ev 3 .mono x.2.1,()),()) fun x2=>
 A.cg (A.au (A.au (A.au (A.cmp .eql (A.fI .ev 0 x.1) (A.fI .ev 0 x.2.1)) (A.cmp .eql (A.fI .ev 1 x.1) (A.fI .ev 1 x.2.1)) (A.bl false)) x1.1 (A.bl false)) x2.1 (A.bl false)) XU XV (A.fL .ev 4 .poly x.1,A.fL .ev 4 .poly x.2.1,()) fun x3=>
 A.rb (A.au (A.au (A.au (A.au (A.cmp .eql (A.fI .ev 0 x.1) (A.fI .ev 0 x.2.1)) (A.cmp .eql (A.fI .ev 1 x.1) (A.fI .ev 1 x.2.1)) (A.bl false)) x1.1 (A.bl false)) x2.1 (A.bl false)) x3.1 (A.bl false))
def Gy (A:Alg) (ak1:Pt A Jb) (ak2:Ft A Jb) (x:Tup A.ah [.l .ev,.l .ev]):Ot A BG:=
 A.l1 .b (A.bl false) fun x0=>
 A.cond (A.cmp .neq (A.len .ev x.1) (A.len .ev x.2.1)) (A.rb (A.bl false))<|
 A.iter [.l .ev,.l .ev,.i,.i] (fun x1=>
 A.cond (A.cmp .lss x1.2.2.2.1 x1.2.2.1) (A.bd .ev x1.2.1 x1.2.2.2.1<|
 A.l1 .i x1.2.2.2.1 fun x2=>
 A.l1 (.x .ev) (A.get .ev x1.2.1 x1.2.2.2.1) fun x3=>
 A.bd .ev x1.1 x2.1<|
 A.l1 (.x .ev) (A.get .ev x1.1 x2.1) fun x4=>
 A.cl ak1 ak2 (x3.1,x4.1,()) fun x5=>
 A.cond (A.aB x5.1) (A.l1 .b (A.bl false) fun x6=>
 A.inr _<|A.ret _ (x6.1,()))<|
 A.inl _ (x1.1,x1.2.1,x1.2.2.1,A.arith .add .i64 x1.2.2.2.1 (A.lit 1),()))<|
 A.inr _<|A.rb (A.bl true)) (x.2.1,x.1,A.len .ev x.1,A.lit 0,())
def Ox (A:Alg) (l5:Pt A iR) (l6:Ft A iR) (XU:Pt A zD) (XV:Ft A zD) (ahG:Pt A BG) (ahH:Ft A BG) (x:Tup A.ah [.x .sym,.x .sym]):Ot A Jc:=
 A.l1 .b (A.bl false) fun x0=>
 A.cl ahG ahH (A.fL .sym 0 .ev x.1,A.fL .sym 0 .ev x.2.1,()) fun x1=>
 A.l1 .b x1.1 fun x2=>
 A.cg x2.1 XU XV (A.fL .sym 1 .poly x.1,A.fL .sym 1 .poly x.2.1,()) fun x3=>
 A.cg (A.au (A.au x2.1 x3.1 (A.bl false)) (A.cmp .eql (A.fI .sym 2 x.1) (A.fI .sym 2 x.2.1)) (A.bl false)) l5 l6 (A.mkX .poly (A.fL .sym 3 .mono x.1,()),A.mkX .poly (A.fL .sym 3 .mono x.2.1,()),()) fun x4=>
 A.cg (A.au (A.au (A.au x2.1 x3.1 (A.bl false)) (A.cmp .eql (A.fI .sym 2 x.1) (A.fI .sym 2 x.2.1)) (A.bl false)) x4.1 (A.bl false)) l5 l6 (A.mkX .poly (A.fL .sym 4 .mono x.1,()),A.mkX .poly (A.fL .sym 4 .mono x.2.1,()),()) fun x5=>
 A.rb (A.au (A.au (A.au (A.au (A.au x2.1 x3.1 (A.bl false)) (A.cmp .eql (A.fI .sym 2 x.1) (A.fI .sym 2 x.2.1)) (A.bl false)) x4.1 (A.bl false)) x5.1 (A.bl false)) (A.cmp .eql (A.fI .sym 5 x.1) (A.fI .sym 5 x.2.1)) (A.bl false))
def XW (A:Alg) (Jg:Pt A tN) (Jh:Ft A tN) (ak3:Pt A I8) (ak4:Ft A I8) (ak5:Pt A I9) (ak6:Ft A I9) (adl:Pt A I7) (adn:Ft A I7) (ak7:Pt A Jc) (ak8:Ft A Jc) (x:Tup A.ah [.x .blk,.x .blk]):Ot A Vu:=
 A.l1 .b (A.bl false) fun x0=>
 A.cl Jg Jh (x.1,()) fun x1=>
 A.cg (A.aB (A.aB x1.1)) Jg Jh (x.2.1,()) fun x2=>
 A.cond (A.au (A.au (A.au (A.aB x1.1) (A.bl true) (A.aB x2.1)) (A.bl true) (A.cmp .neq (A.fI .blk 0 x.1) (A.fI .blk 0 x.2.1))) (A.bl true) (A.cmp .neq (A.fI .blk 1 x.1) (A.fI .blk 1 x.2.1))) (A.rb (A.bl false))<|
 A.cl ak3 ak4 (x.1,x.2.1,()) fun x3=>
 A.cond x3.1 (A.rb (A.bl true))<|
 A.cl ak5 ak6 () fun x4=>
 A.l1 (.x .tab) x4.1 fun x5=>
 A.l1 (.l .poly) x4.2.1 fun x6=>
 A.cl adl adn (x5.1,x.1,()) fun x7=>
 A.l1 (.x .tab) x7.1 fun x8=>
 A.l1 (.x .sym) x7.2.1 fun x9=>
 A.cl adl adn (x8.1,x.2.1,()) fun x10=>
 A.l1 (.x .tab) x10.1 fun x11=>
 A.l1 (.x .sym) x10.2.1 fun x12=>
 A.cl ak7 ak8 (x9.1,x12.1,()) fun x13=>
 A.rb x13.1
def Oy (A:Alg) (x:Tup A.ah [.x .blk,.x .blk]):Ot A Jd:=
 A.l1 .b (A.bl false) fun x0=>
 A.cond (A.au (A.au (A.au (A.au (A.au (A.au (A.cmp .neq (A.fI .blk 0 x.1) (A.fI .blk 0 x.2.1)) (A.bl true) (A.cmp .neq (A.fI .blk 1 x.1) (A.fI .blk 1 x.2.1))) (A.bl true) (A.cmp .neq (A.fI .blk 3 x.1) (A.fI .blk 3 x.2.1))) (A.bl true) (A.cmp .neq (A.fI .blk 4 x.1) (A.fI .blk 4 x.2.1))) (A.bl true) (A.cmp .neq (A.fI .blk 5 x.1) (A.fI .blk 5 x.2.1))) (A.bl true) (A.cmp .neq (A.fI .blk 6 x.1) (A.fI .blk 6 x.2.1))) (A.bl true) (A.cmp .neq (A.len .iop (A.fL .blk 2 .iop x.1)) (A.len .iop (A.fL .blk 2 .iop x.2.1)))) (A.rb (A.bl false))<|
 A.l1 .i (A.lit 0) fun x1=>
 A.iter [.i,.x .blk,.x .blk] (fun x2=>
 A.cond (A.cmp .lss x2.1 (A.len .iop (A.fL .blk 2 .iop x2.2.1))) (A.bd .iop (A.fL .blk 2 .iop x2.2.1) x2.1<|
 A.bd .iop (A.fL .blk 2 .iop x2.2.2.1) x2.1<|
 A.cond (A.aB (A.eqX .iop (A.get .iop (A.fL .blk 2 .iop x2.2.1) x2.1) (A.get .iop (A.fL .blk 2 .iop x2.2.2.1) x2.1))) (A.l1 .b (A.bl false) fun x3=>
 A.inr _<|A.ret _ (x3.1,()))<|
 A.l1 .i (A.arith .add .i64 x2.1 (A.lit 1)) fun x3=>
 A.inl _ (x3.1,x2.2.1,x2.2.2.1,()))<|
 A.inr _<|A.rb (A.bl true)) (x1.1,x.1,x.2.1,())
def Gz (A:Alg) (Fy:Pt A lN) (Fz:Ft A lN) (ahI:Pt A Al) (ahJ:Ft A Al) (aY:Pt A dO) (aZ:Ft A dO) (XY:Pt A Bh) (XZ:Ft A Bh) (x:Tup A.ah [.l .u8]):Ot A BH:=
 A.cl ahI ahJ (x.1,()) fun x0=>
 A.cl aY aZ (A.lit 2,x0.1,x0.2.1,()) fun x1=>
 A.cond (A.cmp .eql x1.1 (A.lit 0)) (A.cl XY XZ (A.lit 14,x1.2.1,x1.2.2.1,()) fun x2=>
 A.cl Fy Fz (x2.1,()) fun x3=>
 A.ret _ (A.mkX .blk (x3.1,x3.2.1,x3.q.2.2.1,x3.2.2.1,x3.2.2.2.1,x3.q.1,x3.q.2.1,()),()))<|
 A.cl XY XZ (A.lit 14,x1.2.1,x1.2.2.1,()) fun x2=>
 A.l1 (.x .blk) x2.1 fun x3=>
 A.ret _ (x3.1,())
def X0 (A:Alg) (x:Tup A.ah [.x .blk]):Ot A Vv:=
 A.chk (A.cmp .leq (A.len .iop (A.fL .blk 2 .iop x.1)) (A.lit 1073741824))<|
 A.l1 (.l .iop) (A.fL .blk 2 .iop x.1) fun x0=>
 A.ret _ (A.fI .blk 0 x.1,A.fI .blk 1 x.1,A.fI .blk 3 x.1,A.fI .blk 4 x.1,A.fI .blk 5 x.1,A.fI .blk 6 x.1,x0.1,())
def Oz (A:Alg) (x:Tup A.ah [.i,.i,.i,.i,.i,.i,.i,.l .iop]):Ot A Je:=
 A.l1 .b (A.bl false) fun x0=>
 A.bd .iop x.q.2.2.2.1 x.1<|
 A.bd .iop x.q.2.2.2.1 x.1<|
 A.l1 .b (A.cmp .eql (A.fI .iop 0 (A.get .iop x.q.2.2.2.1 x.1)) (A.lit 1)) fun x1=>
 A.ret _ (x1.1,x.2.1,x.2.2.1,x.2.2.2.1,x.q.1,x.q.2.1,x.q.2.2.1,x.q.2.2.2.1,())
def OA (A:Alg) (anG:Pt A Vv) (anH:Ft A Vv) (Jg:Pt A tN) (Jh:Ft A tN) (GA:Pt A Je) (GD:Ft A Je) (XL:Pt A zu) (XM:Ft A zu) (Xo:Pt A y9) (Xp:Ft A y9) (x:Tup A.ah [.x .blk]):Ot A Jf:=
 A.cl Jg Jh (x.1,()) fun x0=>
 A.cond (A.aB x0.1) (A.ret _ (A.mkX .blk (A.lit 0,A.lit 0,A.bX .iop,A.lit 0,A.lit 0,A.lit 0,A.lit 0,()),()))<|
 A.cl anG anH (x.1,()) fun x1=>
 A.iter [.i,.i,.x .blk,.i,.i,.i,.i,.i,.i,.i,.i,.i,.i,.i,.i,.l .iop] (fun x2=>
 A.cond (A.cmp .lss x2.2.1 x2.1) (A.bd .iop x2.o.q.2.2.2.1 x2.2.1<|
 A.bd .iop x2.o.q.2.2.2.1 x2.2.1<|
 A.l1 .i x2.2.1 fun x3=>
 A.l1 (.x .iop) (A.get .iop x2.o.q.2.2.2.1 x2.2.1) fun x4=>
 A.bind [.i,.i,.i,.b,.x .blk,.i,.i,.i,.i,.i,.i,.i,.i,.i,.i,.i,.i,.x .iop,.l .iop] (A.cond (A.cmp .eql (A.fI .iop 0 x4.1) (A.lit 3)) (A.cl GA GD (A.fI .iop 1 x4.1,x2.o.2.1,x2.o.2.2.1,x2.o.2.2.2.1,x2.o.q.1,x2.o.q.2.1,x2.o.q.2.2.1,x2.o.q.2.2.2.1,()) fun x5=>
 A.cond (A.au (A.cmp .eql (A.fI .iop 0 x4.1) (A.lit 3)) x5.1 (A.bl false)) (A.cl GA GD (A.fI .iop 2 x4.1,x5.2.1,x5.2.2.1,x5.2.2.2.1,x5.q.1,x5.q.2.1,x5.q.2.2.1,x5.q.2.2.2.1,()) fun x6=>
 A.ret _ (x3.1,x2.1,x2.2.1,A.au (A.au (A.cmp .eql (A.fI .iop 0 x4.1) (A.lit 3)) x5.1 (A.bl false)) x6.1 (A.bl false),x2.2.2.1,x2.2.2.2.1,x2.q.1,x2.q.2.1,x2.q.2.2.1,x2.q.2.2.2.1,x2.o.1,x6.2.1,x6.2.2.1,x6.2.2.2.1,x6.q.1,x6.q.2.1,x6.q.2.2.1,x4.1,x6.q.2.2.2.1,()))<|
 A.chk (A.aB (A.au (A.cmp .eql (A.fI .iop 0 x4.1) (A.lit 3)) x5.1 (A.bl false)))<|
 A.ret _ (x3.1,x2.1,x2.2.1,A.bl false,x2.2.2.1,x2.2.2.2.1,x2.q.1,x2.q.2.1,x2.q.2.2.1,x2.q.2.2.2.1,x2.o.1,x5.2.1,x5.2.2.1,x5.2.2.2.1,x5.q.1,x5.q.2.1,x5.q.2.2.1,x4.1,x5.q.2.2.2.1,()))<|
 A.chk (A.aB (A.cmp .eql (A.fI .iop 0 x4.1) (A.lit 3)))<|
 A.cond (A.bl false) (A.cl GA GD (A.fI .iop 2 x4.1,x2.o.2.1,x2.o.2.2.1,x2.o.2.2.2.1,x2.o.q.1,x2.o.q.2.1,x2.o.q.2.2.1,x2.o.q.2.2.2.1,()) fun x5=>
 A.ret _ (x3.1,x2.1,x2.2.1,A.au (A.bl false) x5.1 (A.bl false),x2.2.2.1,x2.2.2.2.1,x2.q.1,x2.q.2.1,x2.q.2.2.1,x2.q.2.2.2.1,x2.o.1,x5.2.1,x5.2.2.1,x5.2.2.2.1,x5.q.1,x5.q.2.1,x5.q.2.2.1,x4.1,x5.q.2.2.2.1,()))<|
 A.chk (A.aB (A.bl false))<|
 A.ret _ (x3.1,x2.1,x2.2.1,A.bl false,x2.2.2.1,x2.2.2.2.1,x2.q.1,x2.q.2.1,x2.q.2.2.1,x2.q.2.2.2.1,x2.o.1,x2.o.2.1,x2.o.2.2.1,x2.o.2.2.2.1,x2.o.q.1,x2.o.q.2.1,x2.o.q.2.2.1,x4.1,x2.o.q.2.2.2.1,())) fun x5=>
 A.bind [.i,.i,.x .blk,.i,.i,.i,.i,.i,.i,.i,.i,.i,.i,.i,.i,.l .iop] (A.cond x5.2.2.2.1 (A.bd .iop x5.o.o.2.2.1 (A.fI .iop 1 x5.o.o.2.1)<|
 A.bd .iop x5.o.o.2.2.1 (A.fI .iop 1 x5.o.o.2.1)<|
 A.bd .iop x5.o.o.2.2.1 (A.fI .iop 2 x5.o.o.2.1)<|
 A.bd .iop x5.o.o.2.2.1 (A.fI .iop 2 x5.o.o.2.1)<|
 A.cl XL XM (A.fI .iop 3 x5.o.o.2.1,A.fI .iop 3 (A.get .iop x5.o.o.2.2.1 (A.fI .iop 1 x5.o.o.2.1)),A.fI .iop 3 (A.get .iop x5.o.o.2.2.1 (A.fI .iop 2 x5.o.o.2.1)),()) fun x6=>
 A.bd .iop x5.o.o.2.2.1 x5.1<|
 A.bd .iop x5.o.o.2.2.1 x5.1<|
 A.ret _ (x5.2.1,x5.2.2.1,x5.q.1,x5.q.2.1,x5.q.2.2.1,x5.q.2.2.2.1,x5.o.1,x5.o.2.1,x5.o.2.2.1,x5.o.2.2.2.1,x5.o.q.1,x5.o.q.2.1,x5.o.q.2.2.1,x5.o.q.2.2.2.1,x5.o.o.1,A.set .iop x5.o.o.2.2.1 x5.1 (A.mkX .iop (A.lit 1,A.lit 0,A.lit 0,x6.1,A.lit 0,())),()))<|
 A.ret _ (x5.2.1,x5.2.2.1,x5.q.1,x5.q.2.1,x5.q.2.2.1,x5.q.2.2.2.1,x5.o.1,x5.o.2.1,x5.o.2.2.1,x5.o.2.2.2.1,x5.o.q.1,x5.o.q.2.1,x5.o.q.2.2.1,x5.o.q.2.2.2.1,x5.o.o.1,x5.o.o.2.2.1,())) fun x6=>
 A.inl _ (x6.1,A.arith .add .i64 x6.2.1 (A.lit 1),x6.2.2.1,x6.2.2.2.1,x6.q.1,x6.q.2.1,x6.q.2.2.1,x6.q.2.2.2.1,x6.o.1,x6.o.2.1,x6.o.2.2.1,x6.o.2.2.2.1,x6.o.q.1,x6.o.q.2.1,x6.o.q.2.2.1,x6.o.q.2.2.2.1,()))<|
 A.inr _<|A.bind [.b,.x .blk,.i,.i,.i,.i,.i,.i,.i,.i,.i,.i,.i,.i,.l .iop] (A.cond (A.cmp .eql (A.fI .blk 3 x2.2.2.1) (A.lit 2)) (A.cl GA GD (A.fI .blk 4 x2.2.2.1,x2.o.2.1,x2.o.2.2.1,x2.o.2.2.2.1,x2.o.q.1,x2.o.q.2.1,x2.o.q.2.2.1,x2.o.q.2.2.2.1,()) fun x3=>
 A.l1 .b (A.au (A.cmp .eql (A.fI .blk 3 x2.2.2.1) (A.lit 2)) x3.1 (A.bl false)) fun x4=>
 A.ret _ (x4.1,x2.2.2.1,x2.2.2.2.1,x2.q.1,x2.q.2.1,x2.q.2.2.1,x2.q.2.2.2.1,x2.o.1,x3.2.1,x3.2.2.1,x3.2.2.2.1,x3.q.1,x3.q.2.1,x3.q.2.2.1,x3.q.2.2.2.1,()))<|
 A.chk (A.aB (A.cmp .eql (A.fI .blk 3 x2.2.2.1) (A.lit 2)))<|
 A.l1 .b (A.bl false) fun x3=>
 A.ret _ (x3.1,x2.2.2.1,x2.2.2.2.1,x2.q.1,x2.q.2.1,x2.q.2.2.1,x2.q.2.2.2.1,x2.o.1,x2.o.2.1,x2.o.2.2.1,x2.o.2.2.2.1,x2.o.q.1,x2.o.q.2.1,x2.o.q.2.2.1,x2.o.q.2.2.2.1,())) fun x3=>
 A.bind [.i,.i,.i,.i,.i,.i,.i,.i,.i,.i,.i,.i,.l .iop] (A.cond x3.1 (A.bd .iop x3.o.q.2.2.1 (A.fI .blk 4 x3.2.1)<|
 A.bd .iop x3.o.q.2.2.1 (A.fI .blk 4 x3.2.1)<|
 A.l1 .i (A.lit 1) fun x4=>
 A.l1 .i (A.lit 0) fun x5=>
 A.l1 .i (A.fI .iop 3 (A.get .iop x3.o.q.2.2.1 (A.fI .blk 4 x3.2.1))) fun x6=>
 A.ret _ (x3.2.2.1,x3.2.2.2.1,x3.q.1,x3.q.2.1,x3.q.2.2.1,x3.q.2.2.2.1,x3.o.1,x3.o.2.1,x4.1,x5.1,x3.o.q.1,x6.1,x3.o.q.2.2.1,()))<|
 A.bind [.b,.x .blk,.i,.i,.i,.i,.i,.i,.i,.i,.i,.i,.i,.i,.l .iop] (A.cond (A.cmp .geq (A.fI .blk 3 x3.2.1) (A.lit 3)) (A.cl GA GD (A.fI .blk 4 x3.2.1,x3.o.1,x3.o.2.1,x3.o.2.2.1,x3.o.2.2.2.1,x3.o.q.1,x3.o.q.2.1,x3.o.q.2.2.1,()) fun x4=>
 A.cond (A.au (A.cmp .geq (A.fI .blk 3 x3.2.1) (A.lit 3)) x4.1 (A.bl false)) (A.cl GA GD (A.fI .blk 5 x3.2.1,x4.2.1,x4.2.2.1,x4.2.2.2.1,x4.q.1,x4.q.2.1,x4.q.2.2.1,x4.q.2.2.2.1,()) fun x5=>
 A.l1 .b (A.au (A.au (A.cmp .geq (A.fI .blk 3 x3.2.1) (A.lit 3)) x4.1 (A.bl false)) x5.1 (A.bl false)) fun x6=>
 A.ret _ (x6.1,x3.2.1,x3.2.2.1,x3.2.2.2.1,x3.q.1,x3.q.2.1,x3.q.2.2.1,x3.q.2.2.2.1,x5.2.1,x5.2.2.1,x5.2.2.2.1,x5.q.1,x5.q.2.1,x5.q.2.2.1,x5.q.2.2.2.1,()))<|
 A.chk (A.aB (A.au (A.cmp .geq (A.fI .blk 3 x3.2.1) (A.lit 3)) x4.1 (A.bl false)))<|
 A.l1 .b (A.bl false) fun x5=>
 A.ret _ (x5.1,x3.2.1,x3.2.2.1,x3.2.2.2.1,x3.q.1,x3.q.2.1,x3.q.2.2.1,x3.q.2.2.2.1,x4.2.1,x4.2.2.1,x4.2.2.2.1,x4.q.1,x4.q.2.1,x4.q.2.2.1,x4.q.2.2.2.1,()))<|
 A.chk (A.aB (A.cmp .geq (A.fI .blk 3 x3.2.1) (A.lit 3)))<|
 A.cond (A.bl false) (A.cl GA GD (A.fI .blk 5 x3.2.1,x3.o.1,x3.o.2.1,x3.o.2.2.1,x3.o.2.2.2.1,x3.o.q.1,x3.o.q.2.1,x3.o.q.2.2.1,()) fun x4=>
 A.l1 .b (A.au (A.bl false) x4.1 (A.bl false)) fun x5=>
 A.ret _ (x5.1,x3.2.1,x3.2.2.1,x3.2.2.2.1,x3.q.1,x3.q.2.1,x3.q.2.2.1,x3.q.2.2.2.1,x4.2.1,x4.2.2.1,x4.2.2.2.1,x4.q.1,x4.q.2.1,x4.q.2.2.1,x4.q.2.2.2.1,()))<|
 A.chk (A.aB (A.bl false))<|
 A.l1 .b (A.bl false) fun x4=>
 A.ret _ (x4.1,x3.2.1,x3.2.2.1,x3.2.2.2.1,x3.q.1,x3.q.2.1,x3.q.2.2.1,x3.q.2.2.2.1,x3.o.1,x3.o.2.1,x3.o.2.2.1,x3.o.2.2.2.1,x3.o.q.1,x3.o.q.2.1,x3.o.q.2.2.1,())) fun x4=>
 A.bind [.i,.i,.i,.i,.i,.i,.i,.i,.i,.i,.i,.i,.l .iop] (A.cond x4.1 (A.l1 .i (A.lit 1) fun x5=>
 A.l1 .i (A.lit 0) fun x6=>
 A.l1 .i (A.lit 0) fun x7=>
 A.bd .iop x4.o.q.2.2.1 (A.fI .blk 4 x4.2.1)<|
 A.bd .iop x4.o.q.2.2.1 (A.fI .blk 4 x4.2.1)<|
 A.bd .iop x4.o.q.2.2.1 (A.fI .blk 5 x4.2.1)<|
 A.bd .iop x4.o.q.2.2.1 (A.fI .blk 5 x4.2.1)<|
 A.cl Xo Xp (A.arith .add .i64 (A.arith .sub .i64 (A.fI .blk 3 x4.2.1) (A.lit 3)) (A.lit 1),A.fI .iop 3 (A.get .iop x4.o.q.2.2.1 (A.fI .blk 4 x4.2.1)),A.fI .iop 3 (A.get .iop x4.o.q.2.2.1 (A.fI .blk 5 x4.2.1)),()) fun x8=>
 A.bind [.i,.i,.i,.i,.i,.i,.i,.i,.i,.i,.i,.i,.l .iop] (A.cond (A.aB x8.1) (A.l1 .i (A.arith .add .i64 (A.fI .blk 0 x4.2.1) (A.fI .blk 1 x4.2.1)) fun x9=>
 A.ret _ (x4.2.2.1,x4.2.2.2.1,x4.q.1,x4.q.2.1,x4.q.2.2.1,x4.q.2.2.2.1,x4.o.1,x4.o.2.1,x5.1,x6.1,x7.1,x9.1,x4.o.q.2.2.1,()))<|
 A.ret _ (x4.2.2.1,x4.2.2.2.1,x4.q.1,x4.q.2.1,x4.q.2.2.1,x4.q.2.2.2.1,x4.o.1,x4.o.2.1,x5.1,x6.1,x7.1,x4.o.q.2.1,x4.o.q.2.2.1,())) fun x9=>
 A.ret _ (x9.1,x9.2.1,x9.2.2.1,x9.2.2.2.1,x9.q.1,x9.q.2.1,x9.q.2.2.1,x9.q.2.2.2.1,x9.o.1,x9.o.2.1,x9.o.2.2.1,x9.o.2.2.2.1,x9.o.q.1,()))<|
 A.ret _ (x4.2.2.1,x4.2.2.2.1,x4.q.1,x4.q.2.1,x4.q.2.2.1,x4.q.2.2.2.1,x4.o.1,x4.o.2.1,x4.o.2.2.1,x4.o.2.2.2.1,x4.o.q.1,x4.o.q.2.1,x4.o.q.2.2.1,())) fun x5=>
 A.ret _ (x5.1,x5.2.1,x5.2.2.1,x5.2.2.2.1,x5.q.1,x5.q.2.1,x5.q.2.2.1,x5.q.2.2.2.1,x5.o.1,x5.o.2.1,x5.o.2.2.1,x5.o.2.2.2.1,x5.o.q.1,())) fun x4=>
 A.ret _ (A.mkX .blk (x4.q.2.2.1,x4.q.2.2.2.1,x4.o.q.1,x4.o.1,x4.o.2.1,x4.o.2.2.1,x4.o.2.2.2.1,()),())) (A.len .iop x1.q.2.2.1,A.lit 0,x.1,A.lit 0,A.lit 0,A.lit 0,A.lit 0,A.lit 0,A.lit 0,x1.1,x1.2.1,x1.2.2.1,x1.2.2.2.1,x1.q.1,x1.q.2.1,x1.q.2.2.1,())
def OB (A:Alg) (anI:Pt A Vu) (anJ:Ft A Vu) (ado:Pt A Jf) (adp:Ft A Jf) (adq:Pt A Jd) (adr:Ft A Jd) (ak9:Pt A IE) (ala:Ft A IE) (ahK:Pt A BH) (ahL:Ft A BH) (mZ:Pt A fG) (nu:Ft A fG) (Qm:Pt A sD) (Qn:Ft A sD) (x:Tup A.ah [.l .u8]):Ot A WZ:=
 A.l1 .b (A.bl false) fun x0=>
 A.cond (A.cmp .gtr (A.len .u8 x.1) (A.lit 1048576)) (A.rb (A.bl true))<|
 A.cl ahK ahL (x.1,()) fun x1=>
 A.l1 (.x .blk) x1.1 fun x2=>
 A.cl ado adp (x2.1,()) fun x3=>
 A.l1 (.x .blk) x3.1 fun x4=>
 A.cl Qm Qn (x2.1,()) fun x5=>
 A.cl adq adr (x4.1,x5.1,()) fun x6=>
 A.cond (A.aB x6.1) (A.rb (A.bl false))<|
 A.cl mZ nu (x2.1,()) fun x7=>
 A.cond (A.aB x7.1) (A.cg (A.cmp .eql (A.fI .blk 1 x4.1) (A.lit 0)) ak9 ala () fun x8=>
 A.rb (A.au (A.cmp .eql (A.fI .blk 1 x4.1) (A.lit 0)) x8.1 (A.bl false)))<|
 A.l1 .i (A.lit 0) fun x8=>
 A.iter [.i,.x .blk,.x .blk] (fun x9=>
 A.cond (A.cmp .lss x9.1 (A.len .iop (A.fL .blk 2 .iop x9.2.2.1))) (A.bd .iop (A.fL .blk 2 .iop x9.2.2.1) x9.1<|
 A.l1 (.x .iop) (A.get .iop (A.fL .blk 2 .iop x9.2.2.1) x9.1) fun x10=>
 A.chk (A.orB (A.aB (A.cmp .eql (A.fI .iop 0 x10.1) (A.lit 3))) (A.cmp .leq (A.lit 0) (A.fI .iop 1 x10.1)))<|
 A.chk (A.orB (A.aB (A.cmp .eql (A.fI .iop 0 x10.1) (A.lit 3))) (A.cmp .lss (A.fI .iop 1 x10.1) (A.len .iop (A.fL .blk 2 .iop x9.2.2.1))))<|
 A.chk (A.orB (A.aB (A.au (A.cmp .eql (A.fI .iop 0 x10.1) (A.lit 3)) (A.cmp .eql (A.fI .iop 0 (A.get .iop (A.fL .blk 2 .iop x9.2.2.1) (A.fI .iop 1 x10.1))) (A.lit 1)) (A.bl false))) (A.cmp .leq (A.lit 0) (A.fI .iop 2 x10.1)))<|
 A.chk (A.orB (A.aB (A.au (A.cmp .eql (A.fI .iop 0 x10.1) (A.lit 3)) (A.cmp .eql (A.fI .iop 0 (A.get .iop (A.fL .blk 2 .iop x9.2.2.1) (A.fI .iop 1 x10.1))) (A.lit 1)) (A.bl false))) (A.cmp .lss (A.fI .iop 2 x10.1) (A.len .iop (A.fL .blk 2 .iop x9.2.2.1))))<|
 A.cond (A.au (A.au (A.cmp .eql (A.fI .iop 0 x10.1) (A.lit 3)) (A.cmp .eql (A.fI .iop 0 (A.get .iop (A.fL .blk 2 .iop x9.2.2.1) (A.fI .iop 1 x10.1))) (A.lit 1)) (A.bl false)) (A.cmp .eql (A.fI .iop 0 (A.get .iop (A.fL .blk 2 .iop x9.2.2.1) (A.fI .iop 2 x10.1))) (A.lit 1)) (A.bl false)) (A.l1 .b (A.bl false) fun x11=>
 A.inr _<|A.ret _ (x11.1,()))<|
 A.l1 .i (A.arith .add .i64 x9.1 (A.lit 1)) fun x11=>
 A.inl _ (x11.1,x9.2.1,x9.2.2.1,()))<|
 A.inr _<|A.cl anI anJ (x9.2.1,x9.2.2.1,()) fun x10=>
 A.cg (A.au x10.1 (A.cmp .eql (A.len .iop (A.fL .blk 2 .iop x9.2.2.1)) (A.len .iop (A.fL .blk 2 .iop x9.2.1))) (A.bl false)) ado adp (x9.2.2.1,()) fun x11=>
 A.cg (A.au x10.1 (A.cmp .eql (A.len .iop (A.fL .blk 2 .iop x9.2.2.1)) (A.len .iop (A.fL .blk 2 .iop x9.2.1))) (A.bl false)) adq adr (x11.1,x9.2.2.1,()) fun x12=>
 A.rb (A.au (A.au x10.1 (A.cmp .eql (A.len .iop (A.fL .blk 2 .iop x9.2.2.1)) (A.len .iop (A.fL .blk 2 .iop x9.2.1))) (A.bl false)) x12.1 (A.bl false))) (x8.1,x2.1,x4.1,())
end Go.TX.F
namespace Go.TX.Seat
open Go Go.AE Go.TX Go.Proofs
set_option maxRecDepth 100000
def ty:TypeId→Option TY
  | 2=>some ⟨(.int .i64),1,8,[.d true (.int .i64 0)]⟩
  | 3=>some ⟨(.int .i64),1,8,[.d true (.int .i64 0)]⟩
  | 4=>some ⟨.bool,1,1,[.d true (.bool false)]⟩
  | 5=>some ⟨(.int .u8),1,1,[.d true (.int .u8 0)]⟩
  | 6=>some ⟨(.int .u8),1,1,[.d true (.int .u8 0)]⟩
  | 7=>some ⟨(.struct [(0,2),(1,3),(2,4),(3,6)]),4,24,[.d true (.int .i64 0),.d true (.int .i64 0),.d true (.bool false),.d true (.int .u8 0)]⟩
  | 8=>some ⟨(.struct [(0,2),(1,3),(2,4),(3,6)]),4,24,[.d true (.int .i64 0),.d true (.int .i64 0),.d true (.bool false),.d true (.int .u8 0)]⟩
  | 9=>some ⟨.scalar,1,16,[.d true (.str ⟨#[]⟩)]⟩
  | 10=>some ⟨.scalar,1,16,[.d true (.str ⟨#[]⟩)]⟩
  | 11=>some ⟨.scalar,1,16,[.d true (.str ⟨#[]⟩)]⟩
  | 12=>some ⟨(.int .u64),1,8,[.d true (.int .u64 0)]⟩
  | 13=>some ⟨(.struct [(0,9),(1,12)]),2,24,[.d true (.str ⟨#[]⟩),.d true (.int .u64 0)]⟩
  | 14=>some ⟨(.struct [(0,9),(1,12)]),2,24,[.d true (.str ⟨#[]⟩),.d true (.int .u64 0)]⟩
  | 15=>some ⟨.scalar,1,8,[.np]⟩
  | 16=>some ⟨.scalar,1,8,[.np]⟩
  | 17=>some ⟨.scalar,1,8,[.np]⟩
  | 18=>some ⟨(.struct [(0,17)]),1,8,[.np]⟩
  | 19=>some ⟨(.struct [(0,17)]),1,8,[.np]⟩
  | 21=>some ⟨(.int .i32),1,4,[.d true (.int .i32 0)]⟩
  | 22=>some ⟨(.slice 5),1,24,[.nil]⟩
  | 23=>some ⟨(.slice 70),1,24,[.nil]⟩
  | 24=>some ⟨(.slice 27),1,24,[.nil]⟩
  | 25=>some ⟨(.slice 95),1,24,[.nil]⟩
  | 26=>some ⟨(.struct [(0,25)]),1,24,[.nil]⟩
  | 27=>some ⟨(.struct [(0,25)]),1,24,[.nil]⟩
  | 28=>some ⟨(.struct [(0,23),(1,24),(2,3),(3,27),(4,27),(5,3)]),6,112,[.nil,.nil,.d true (.int .i64 0),.nil,.nil,.d true (.int .i64 0)]⟩
  | 29=>some ⟨(.struct [(0,23),(1,24),(2,3),(3,27),(4,27),(5,3)]),6,112,[.nil,.nil,.d true (.int .i64 0),.nil,.nil,.d true (.int .i64 0)]⟩
  | 42=>some ⟨(.slice 68),1,24,[.nil]⟩
  | 43=>some ⟨(.struct [(0,3),(1,3),(2,42),(3,3),(4,3),(5,3),(6,3)]),7,72,[.d true (.int .i64 0),.d true (.int .i64 0),.nil,.d true (.int .i64 0),.d true (.int .i64 0),.d true (.int .i64 0),.d true (.int .i64 0)]⟩
  | 44=>some ⟨(.struct [(0,3),(1,3),(2,42),(3,3),(4,3),(5,3),(6,3)]),7,72,[.d true (.int .i64 0),.d true (.int .i64 0),.nil,.d true (.int .i64 0),.d true (.int .i64 0),.d true (.int .i64 0),.d true (.int .i64 0)]⟩
  | 53=>some ⟨(.slice 58),1,24,[.nil]⟩
  | 57=>some ⟨(.struct [(0,44),(7,44)]),14,144,[.d true (.int .i64 0),.d true (.int .i64 0),.nil,.d true (.int .i64 0),.d true (.int .i64 0),.d true (.int .i64 0),.d true (.int .i64 0),.d true (.int .i64 0),.d true (.int .i64 0),.nil,.d true (.int .i64 0),.d true (.int .i64 0),.d true (.int .i64 0),.d true (.int .i64 0)]⟩
  | 58=>some ⟨(.struct [(0,44),(7,44)]),14,144,[.d true (.int .i64 0),.d true (.int .i64 0),.nil,.d true (.int .i64 0),.d true (.int .i64 0),.d true (.int .i64 0),.d true (.int .i64 0),.d true (.int .i64 0),.d true (.int .i64 0),.nil,.d true (.int .i64 0),.d true (.int .i64 0),.d true (.int .i64 0),.d true (.int .i64 0)]⟩
  | 60=>some ⟨(.slice 124),1,24,[.nil]⟩
  | 61=>some ⟨(.struct [(0,60)]),1,24,[.nil]⟩
  | 62=>some ⟨(.struct [(0,60)]),1,24,[.nil]⟩
  | 67=>some ⟨(.struct [(0,3),(1,3),(2,3),(3,3),(4,3)]),5,40,[.d true (.int .i64 0),.d true (.int .i64 0),.d true (.int .i64 0),.d true (.int .i64 0),.d true (.int .i64 0)]⟩
  | 68=>some ⟨(.struct [(0,3),(1,3),(2,3),(3,3),(4,3)]),5,40,[.d true (.int .i64 0),.d true (.int .i64 0),.d true (.int .i64 0),.d true (.int .i64 0),.d true (.int .i64 0)]⟩
  | 69=>some ⟨(.struct [(0,3),(1,3),(2,27),(3,27),(4,24)]),5,88,[.d true (.int .i64 0),.d true (.int .i64 0),.nil,.nil,.nil]⟩
  | 70=>some ⟨(.struct [(0,3),(1,3),(2,27),(3,27),(4,24)]),5,88,[.d true (.int .i64 0),.d true (.int .i64 0),.nil,.nil,.nil]⟩
  | 75=>some ⟨(.slice 4),1,24,[.nil]⟩
  | 78=>some ⟨.scalar,1,8,[.np]⟩
  | 93=>some ⟨(.slice 3),1,24,[.nil]⟩
  | 94=>some ⟨(.struct [(0,3),(1,93)]),2,32,[.d true (.int .i64 0),.nil]⟩
  | 95=>some ⟨(.struct [(0,3),(1,93)]),2,32,[.d true (.int .i64 0),.nil]⟩
  | 102=>some ⟨(.int .u64),1,8,[.d true (.int .u64 0)]⟩
  | 111=>some ⟨.scalar,1,8,[.np]⟩
  | 112=>some ⟨(.struct [(0,62),(1,4)]),2,32,[.nil,.d true (.bool false)]⟩
  | 113=>some ⟨(.struct [(0,62),(1,4)]),2,32,[.nil,.d true (.bool false)]⟩
  | 123=>some ⟨(.struct [(0,3),(1,3),(2,27),(3,27)]),4,64,[.d true (.int .i64 0),.d true (.int .i64 0),.nil,.nil]⟩
  | 124=>some ⟨(.struct [(0,3),(1,3),(2,27),(3,27)]),4,64,[.d true (.int .i64 0),.d true (.int .i64 0),.nil,.nil]⟩
  | 135=>some ⟨(.struct [(0,22),(1,3)]),2,32,[.nil,.d true (.int .i64 0)]⟩
  | 136=>some ⟨(.struct [(0,22),(1,3)]),2,32,[.nil,.d true (.int .i64 0)]⟩
  | 149=>some ⟨(.slice 177),1,24,[.nil]⟩
  | 169=>some ⟨.scalar,1,8,[.np]⟩
  | 176=>some ⟨(.struct [(0,3),(1,3),(2,3),(3,3)]),4,32,[.d true (.int .i64 0),.d true (.int .i64 0),.d true (.int .i64 0),.d true (.int .i64 0)]⟩
  | 177=>some ⟨(.struct [(0,3),(1,3),(2,3),(3,3)]),4,32,[.d true (.int .i64 0),.d true (.int .i64 0),.d true (.int .i64 0),.d true (.int .i64 0)]⟩
  | 201=>some ⟨(.slice 25),1,24,[.nil]⟩
  | 203=>some ⟨(.slice 93),1,24,[.nil]⟩
  | 209=>some ⟨(.int .i64),1,8,[.d true (.int .i64 0)]⟩
  | 216=>some ⟨(.int .u32),1,4,[.d true (.int .u32 0)]⟩
  | 218=>some ⟨(.int .u64),1,8,[.d true (.int .u64 0)]⟩
  | 221=>some ⟨(.int .u64),1,8,[.d true (.int .u64 0)]⟩
  | 225=>some ⟨.scalar,1,8,[.np]⟩
  | 227=>some ⟨.scalar,1,8,[.np]⟩
  | 231=>some ⟨(.struct [(0,17),(1,17),(2,17),(3,9)]),4,40,[.np,.np,.np,.d true (.str ⟨#[]⟩)]⟩
  | 232=>some ⟨(.struct [(0,17),(1,17),(2,17),(3,9)]),4,40,[.np,.np,.np,.d true (.str ⟨#[]⟩)]⟩
  | 237=>some ⟨(.int .u8),1,1,[.d true (.int .u8 0)]⟩
  | 238=>some ⟨(.int .u8),1,1,[.d true (.int .u8 0)]⟩
  | 240=>some ⟨.scalar,1,8,[.np]⟩
  | 241=>some ⟨(.int .i32),1,4,[.d true (.int .i32 0)]⟩
  | 242=>some ⟨(.int .i32),1,4,[.d true (.int .i32 0)]⟩
  | _=>none
theorem ok2:bP Tryz.prog 2 ⟨(.int .i64),1,8,[.d true (.int .i64 0)]⟩:=⟨⟨Tryz.t2,by kernel_rfl,rfl,rfl,_,rfl,fun c w=>aF (by rfl)⟩,Tryz.underlying2,rfl⟩
theorem ok3:bP Tryz.prog 3 ⟨(.int .i64),1,8,[.d true (.int .i64 0)]⟩:=⟨⟨Tryz.t3,by kernel_rfl,rfl,rfl,_,rfl,fun c w=>aF (by rfl)⟩,Tryz.underlying3,rfl⟩
theorem ok4:bP Tryz.prog 4 ⟨.bool,1,1,[.d true (.bool false)]⟩:=⟨⟨Tryz.t4,by kernel_rfl,rfl,rfl,_,rfl,fun c w=>aF (by rfl)⟩,Tryz.underlying4,rfl⟩
theorem ok5:bP Tryz.prog 5 ⟨(.int .u8),1,1,[.d true (.int .u8 0)]⟩:=⟨⟨Tryz.t5,by kernel_rfl,rfl,rfl,_,rfl,fun c w=>aF (by rfl)⟩,Tryz.underlying5,rfl⟩
theorem ok6:bP Tryz.prog 6 ⟨(.int .u8),1,1,[.d true (.int .u8 0)]⟩:=⟨⟨Tryz.t6,by kernel_rfl,rfl,rfl,_,rfl,fun c w=>aF (by rfl)⟩,Tryz.underlying6,rfl⟩
theorem ok7:bP Tryz.prog 7 ⟨(.struct [(0,2),(1,3),(2,4),(3,6)]),4,24,[.d true (.int .i64 0),.d true (.int .i64 0),.d true (.bool false),.d true (.int .u8 0)]⟩:=⟨⟨Tryz.t7,by kernel_rfl,rfl,rfl,_,rfl,fun c w=>aF (by rfl)⟩,⟨_,Tryz.underlying7,by rfl⟩,rfl⟩
theorem ok8:bP Tryz.prog 8 ⟨(.struct [(0,2),(1,3),(2,4),(3,6)]),4,24,[.d true (.int .i64 0),.d true (.int .i64 0),.d true (.bool false),.d true (.int .u8 0)]⟩:=⟨⟨Tryz.t8,by kernel_rfl,rfl,rfl,_,rfl,fun c w=>aF (by rfl)⟩,⟨_,Tryz.underlying8,by rfl⟩,rfl⟩
theorem ok9:bP Tryz.prog 9 ⟨.scalar,1,16,[.d true (.str ⟨#[]⟩)]⟩:=⟨⟨Tryz.t9,by kernel_rfl,rfl,rfl,_,rfl,fun c w=>aF (by rfl)⟩,⟨_,Tryz.underlying9,(fun _ h=>by cases h),(fun _ _ h=>by cases h)⟩,rfl⟩
theorem anK:bP Tryz.prog 10 ⟨.scalar,1,16,[.d true (.str ⟨#[]⟩)]⟩:=⟨⟨Tryz.t10,by kernel_rfl,rfl,rfl,_,rfl,fun c w=>aF (by rfl)⟩,⟨_,Tryz.underlying10,(fun _ h=>by cases h),(fun _ _ h=>by cases h)⟩,rfl⟩
theorem anL:bP Tryz.prog 11 ⟨.scalar,1,16,[.d true (.str ⟨#[]⟩)]⟩:=⟨⟨Tryz.t11,by kernel_rfl,rfl,rfl,_,rfl,fun c w=>aF (by rfl)⟩,⟨_,Tryz.underlying11,(fun _ h=>by cases h),(fun _ _ h=>by cases h)⟩,rfl⟩
theorem anM:bP Tryz.prog 12 ⟨(.int .u64),1,8,[.d true (.int .u64 0)]⟩:=⟨⟨Tryz.t12,by kernel_rfl,rfl,rfl,_,rfl,fun c w=>aF (by rfl)⟩,Tryz.underlying12,rfl⟩
theorem anN:bP Tryz.prog 13 ⟨(.struct [(0,9),(1,12)]),2,24,[.d true (.str ⟨#[]⟩),.d true (.int .u64 0)]⟩:=⟨⟨Tryz.t13,by kernel_rfl,rfl,rfl,_,rfl,fun c w=>aF (by rfl)⟩,⟨_,Tryz.underlying13,by rfl⟩,rfl⟩
theorem anO:bP Tryz.prog 14 ⟨(.struct [(0,9),(1,12)]),2,24,[.d true (.str ⟨#[]⟩),.d true (.int .u64 0)]⟩:=⟨⟨Tryz.t14,by kernel_rfl,rfl,rfl,_,rfl,fun c w=>aF (by rfl)⟩,⟨_,Tryz.underlying14,by rfl⟩,rfl⟩
theorem anP:bP Tryz.prog 15 ⟨.scalar,1,8,[.np]⟩:=⟨⟨Tryz.t15,by kernel_rfl,rfl,rfl,_,rfl,fun c w=>aF (by rfl)⟩,⟨_,Tryz.underlying15,(fun _ h=>by cases h),(fun _ _ h=>by cases h)⟩,rfl⟩
theorem ok16:bP Tryz.prog 16 ⟨.scalar,1,8,[.np]⟩:=⟨⟨Tryz.t16,by kernel_rfl,rfl,rfl,_,rfl,fun c w=>aF (by rfl)⟩,⟨_,Tryz.underlying16,(fun _ h=>by cases h),(fun _ _ h=>by cases h)⟩,rfl⟩
theorem anQ:bP Tryz.prog 17 ⟨.scalar,1,8,[.np]⟩:=⟨⟨Tryz.t17,by kernel_rfl,rfl,rfl,_,rfl,fun c w=>aF (by rfl)⟩,⟨_,Tryz.underlying17,(fun _ h=>by cases h),(fun _ _ h=>by cases h)⟩,rfl⟩
theorem anR:bP Tryz.prog 18 ⟨(.struct [(0,17)]),1,8,[.np]⟩:=⟨⟨Tryz.t18,by kernel_rfl,rfl,rfl,_,rfl,fun c w=>aF (by rfl)⟩,⟨_,Tryz.underlying18,by rfl⟩,rfl⟩
theorem anS:bP Tryz.prog 19 ⟨(.struct [(0,17)]),1,8,[.np]⟩:=⟨⟨Tryz.t19,by kernel_rfl,rfl,rfl,_,rfl,fun c w=>aF (by rfl)⟩,⟨_,Tryz.underlying19,by rfl⟩,rfl⟩
theorem anT:bP Tryz.prog 21 ⟨(.int .i32),1,4,[.d true (.int .i32 0)]⟩:=⟨⟨Tryz.t21,by kernel_rfl,rfl,rfl,_,rfl,fun c w=>aF (by rfl)⟩,Tryz.underlying21,rfl⟩
theorem anU:bP Tryz.prog 22 ⟨(.slice 5),1,24,[.nil]⟩:=⟨⟨Tryz.t22,by kernel_rfl,rfl,rfl,_,rfl,fun c w=>aF (by rfl)⟩,Tryz.underlying22,rfl⟩
theorem anV:bP Tryz.prog 23 ⟨(.slice 70),1,24,[.nil]⟩:=⟨⟨Tryz.t23,by kernel_rfl,rfl,rfl,_,rfl,fun c w=>aF (by rfl)⟩,Tryz.underlying23,rfl⟩
theorem anW:bP Tryz.prog 24 ⟨(.slice 27),1,24,[.nil]⟩:=⟨⟨Tryz.t24,by kernel_rfl,rfl,rfl,_,rfl,fun c w=>aF (by rfl)⟩,Tryz.underlying24,rfl⟩
theorem anX:bP Tryz.prog 25 ⟨(.slice 95),1,24,[.nil]⟩:=⟨⟨Tryz.t25,by kernel_rfl,rfl,rfl,_,rfl,fun c w=>aF (by rfl)⟩,Tryz.underlying25,rfl⟩
theorem anY:bP Tryz.prog 26 ⟨(.struct [(0,25)]),1,24,[.nil]⟩:=⟨⟨Tryz.t26,by kernel_rfl,rfl,rfl,_,rfl,fun c w=>aF (by rfl)⟩,⟨_,Tryz.underlying26,by rfl⟩,rfl⟩
theorem anZ:bP Tryz.prog 27 ⟨(.struct [(0,25)]),1,24,[.nil]⟩:=⟨⟨Tryz.t27,by kernel_rfl,rfl,rfl,_,rfl,fun c w=>aF (by rfl)⟩,⟨_,Tryz.underlying27,by rfl⟩,rfl⟩
theorem an0:bP Tryz.prog 28 ⟨(.struct [(0,23),(1,24),(2,3),(3,27),(4,27),(5,3)]),6,112,[.nil,.nil,.d true (.int .i64 0),.nil,.nil,.d true (.int .i64 0)]⟩:=⟨⟨Tryz.t28,by kernel_rfl,rfl,rfl,_,rfl,fun c w=>aF (by rfl)⟩,⟨_,Tryz.underlying28,by rfl⟩,rfl⟩
theorem an1:bP Tryz.prog 29 ⟨(.struct [(0,23),(1,24),(2,3),(3,27),(4,27),(5,3)]),6,112,[.nil,.nil,.d true (.int .i64 0),.nil,.nil,.d true (.int .i64 0)]⟩:=⟨⟨Tryz.t29,by kernel_rfl,rfl,rfl,_,rfl,fun c w=>aF (by rfl)⟩,⟨_,Tryz.underlying29,by rfl⟩,rfl⟩
theorem an2:bP Tryz.prog 42 ⟨(.slice 68),1,24,[.nil]⟩:=⟨⟨Tryz.t42,by kernel_rfl,rfl,rfl,_,rfl,fun c w=>aF (by rfl)⟩,Tryz.underlying42,rfl⟩
theorem an3:bP Tryz.prog 43 ⟨(.struct [(0,3),(1,3),(2,42),(3,3),(4,3),(5,3),(6,3)]),7,72,[.d true (.int .i64 0),.d true (.int .i64 0),.nil,.d true (.int .i64 0),.d true (.int .i64 0),.d true (.int .i64 0),.d true (.int .i64 0)]⟩:=⟨⟨Tryz.t43,by kernel_rfl,rfl,rfl,_,rfl,fun c w=>aF (by rfl)⟩,⟨_,Tryz.underlying43,by rfl⟩,rfl⟩
theorem an4:bP Tryz.prog 44 ⟨(.struct [(0,3),(1,3),(2,42),(3,3),(4,3),(5,3),(6,3)]),7,72,[.d true (.int .i64 0),.d true (.int .i64 0),.nil,.d true (.int .i64 0),.d true (.int .i64 0),.d true (.int .i64 0),.d true (.int .i64 0)]⟩:=⟨⟨Tryz.t44,by kernel_rfl,rfl,rfl,_,rfl,fun c w=>aF (by rfl)⟩,⟨_,Tryz.underlying44,by rfl⟩,rfl⟩
theorem an5:bP Tryz.prog 53 ⟨(.slice 58),1,24,[.nil]⟩:=⟨⟨Tryz.t53,by kernel_rfl,rfl,rfl,_,rfl,fun c w=>aF (by rfl)⟩,Tryz.underlying53,rfl⟩
theorem an6:bP Tryz.prog 57 ⟨(.struct [(0,44),(7,44)]),14,144,[.d true (.int .i64 0),.d true (.int .i64 0),.nil,.d true (.int .i64 0),.d true (.int .i64 0),.d true (.int .i64 0),.d true (.int .i64 0),.d true (.int .i64 0),.d true (.int .i64 0),.nil,.d true (.int .i64 0),.d true (.int .i64 0),.d true (.int .i64 0),.d true (.int .i64 0)]⟩:=⟨⟨Tryz.t57,by kernel_rfl,rfl,rfl,_,rfl,fun c w=>aF (by rfl)⟩,⟨_,Tryz.underlying57,by rfl⟩,rfl⟩
theorem an7:bP Tryz.prog 58 ⟨(.struct [(0,44),(7,44)]),14,144,[.d true (.int .i64 0),.d true (.int .i64 0),.nil,.d true (.int .i64 0),.d true (.int .i64 0),.d true (.int .i64 0),.d true (.int .i64 0),.d true (.int .i64 0),.d true (.int .i64 0),.nil,.d true (.int .i64 0),.d true (.int .i64 0),.d true (.int .i64 0),.d true (.int .i64 0)]⟩:=⟨⟨Tryz.t58,by kernel_rfl,rfl,rfl,_,rfl,fun c w=>aF (by rfl)⟩,⟨_,Tryz.underlying58,by rfl⟩,rfl⟩
theorem an8:bP Tryz.prog 60 ⟨(.slice 124),1,24,[.nil]⟩:=⟨⟨Tryz.t60,by kernel_rfl,rfl,rfl,_,rfl,fun c w=>aF (by rfl)⟩,Tryz.underlying60,rfl⟩
theorem an9:bP Tryz.prog 61 ⟨(.struct [(0,60)]),1,24,[.nil]⟩:=⟨⟨Tryz.t61,by kernel_rfl,rfl,rfl,_,rfl,fun c w=>aF (by rfl)⟩,⟨_,Tryz.underlying61,by rfl⟩,rfl⟩
theorem aoa:bP Tryz.prog 62 ⟨(.struct [(0,60)]),1,24,[.nil]⟩:=⟨⟨Tryz.t62,by kernel_rfl,rfl,rfl,_,rfl,fun c w=>aF (by rfl)⟩,⟨_,Tryz.underlying62,by rfl⟩,rfl⟩
theorem aob:bP Tryz.prog 67 ⟨(.struct [(0,3),(1,3),(2,3),(3,3),(4,3)]),5,40,[.d true (.int .i64 0),.d true (.int .i64 0),.d true (.int .i64 0),.d true (.int .i64 0),.d true (.int .i64 0)]⟩:=⟨⟨Tryz.t67,by kernel_rfl,rfl,rfl,_,rfl,fun c w=>aF (by rfl)⟩,⟨_,Tryz.underlying67,by rfl⟩,rfl⟩
theorem aoc:bP Tryz.prog 68 ⟨(.struct [(0,3),(1,3),(2,3),(3,3),(4,3)]),5,40,[.d true (.int .i64 0),.d true (.int .i64 0),.d true (.int .i64 0),.d true (.int .i64 0),.d true (.int .i64 0)]⟩:=⟨⟨Tryz.t68,by kernel_rfl,rfl,rfl,_,rfl,fun c w=>aF (by rfl)⟩,⟨_,Tryz.underlying68,by rfl⟩,rfl⟩
theorem aod:bP Tryz.prog 69 ⟨(.struct [(0,3),(1,3),(2,27),(3,27),(4,24)]),5,88,[.d true (.int .i64 0),.d true (.int .i64 0),.nil,.nil,.nil]⟩:=⟨⟨Tryz.t69,by kernel_rfl,rfl,rfl,_,rfl,fun c w=>aF (by rfl)⟩,⟨_,Tryz.underlying69,by rfl⟩,rfl⟩
theorem aoe:bP Tryz.prog 70 ⟨(.struct [(0,3),(1,3),(2,27),(3,27),(4,24)]),5,88,[.d true (.int .i64 0),.d true (.int .i64 0),.nil,.nil,.nil]⟩:=⟨⟨Tryz.t70,by kernel_rfl,rfl,rfl,_,rfl,fun c w=>aF (by rfl)⟩,⟨_,Tryz.underlying70,by rfl⟩,rfl⟩
theorem aof:bP Tryz.prog 75 ⟨(.slice 4),1,24,[.nil]⟩:=⟨⟨Tryz.t75,by kernel_rfl,rfl,rfl,_,rfl,fun c w=>aF (by rfl)⟩,Tryz.underlying75,rfl⟩
theorem aog:bP Tryz.prog 78 ⟨.scalar,1,8,[.np]⟩:=⟨⟨Tryz.t78,by kernel_rfl,rfl,rfl,_,rfl,fun c w=>aF (by rfl)⟩,⟨_,Tryz.underlying78,(fun _ h=>by cases h),(fun _ _ h=>by cases h)⟩,rfl⟩
theorem aoh:bP Tryz.prog 93 ⟨(.slice 3),1,24,[.nil]⟩:=⟨⟨Tryz.t93,by kernel_rfl,rfl,rfl,_,rfl,fun c w=>aF (by rfl)⟩,Tryz.underlying93,rfl⟩
theorem aoi:bP Tryz.prog 94 ⟨(.struct [(0,3),(1,93)]),2,32,[.d true (.int .i64 0),.nil]⟩:=⟨⟨Tryz.t94,by kernel_rfl,rfl,rfl,_,rfl,fun c w=>aF (by rfl)⟩,⟨_,Tryz.underlying94,by rfl⟩,rfl⟩
theorem aoj:bP Tryz.prog 95 ⟨(.struct [(0,3),(1,93)]),2,32,[.d true (.int .i64 0),.nil]⟩:=⟨⟨Tryz.t95,by kernel_rfl,rfl,rfl,_,rfl,fun c w=>aF (by rfl)⟩,⟨_,Tryz.underlying95,by rfl⟩,rfl⟩
theorem alb:bP Tryz.prog 102 ⟨(.int .u64),1,8,[.d true (.int .u64 0)]⟩:=⟨⟨Tryz.t102,by kernel_rfl,rfl,rfl,_,rfl,fun c w=>aF (by rfl)⟩,Tryz.underlying102,rfl⟩
theorem alc:bP Tryz.prog 111 ⟨.scalar,1,8,[.np]⟩:=⟨⟨Tryz.t111,by kernel_rfl,rfl,rfl,_,rfl,fun c w=>aF (by rfl)⟩,⟨_,Tryz.underlying111,(fun _ h=>by cases h),(fun _ _ h=>by cases h)⟩,rfl⟩
theorem ald:bP Tryz.prog 112 ⟨(.struct [(0,62),(1,4)]),2,32,[.nil,.d true (.bool false)]⟩:=⟨⟨Tryz.t112,by kernel_rfl,rfl,rfl,_,rfl,fun c w=>aF (by rfl)⟩,⟨_,Tryz.underlying112,by rfl⟩,rfl⟩
theorem ale:bP Tryz.prog 113 ⟨(.struct [(0,62),(1,4)]),2,32,[.nil,.d true (.bool false)]⟩:=⟨⟨Tryz.t113,by kernel_rfl,rfl,rfl,_,rfl,fun c w=>aF (by rfl)⟩,⟨_,Tryz.underlying113,by rfl⟩,rfl⟩
theorem alf:bP Tryz.prog 123 ⟨(.struct [(0,3),(1,3),(2,27),(3,27)]),4,64,[.d true (.int .i64 0),.d true (.int .i64 0),.nil,.nil]⟩:=⟨⟨Tryz.t123,by kernel_rfl,rfl,rfl,_,rfl,fun c w=>aF (by rfl)⟩,⟨_,Tryz.underlying123,by rfl⟩,rfl⟩
theorem alg:bP Tryz.prog 124 ⟨(.struct [(0,3),(1,3),(2,27),(3,27)]),4,64,[.d true (.int .i64 0),.d true (.int .i64 0),.nil,.nil]⟩:=⟨⟨Tryz.t124,by kernel_rfl,rfl,rfl,_,rfl,fun c w=>aF (by rfl)⟩,⟨_,Tryz.underlying124,by rfl⟩,rfl⟩
theorem alh:bP Tryz.prog 135 ⟨(.struct [(0,22),(1,3)]),2,32,[.nil,.d true (.int .i64 0)]⟩:=⟨⟨Tryz.t135,by kernel_rfl,rfl,rfl,_,rfl,fun c w=>aF (by rfl)⟩,⟨_,Tryz.underlying135,by rfl⟩,rfl⟩
theorem ali:bP Tryz.prog 136 ⟨(.struct [(0,22),(1,3)]),2,32,[.nil,.d true (.int .i64 0)]⟩:=⟨⟨Tryz.t136,by kernel_rfl,rfl,rfl,_,rfl,fun c w=>aF (by rfl)⟩,⟨_,Tryz.underlying136,by rfl⟩,rfl⟩
theorem alj:bP Tryz.prog 149 ⟨(.slice 177),1,24,[.nil]⟩:=⟨⟨Tryz.t149,by kernel_rfl,rfl,rfl,_,rfl,fun c w=>aF (by rfl)⟩,Tryz.underlying149,rfl⟩
theorem alk:bP Tryz.prog 169 ⟨.scalar,1,8,[.np]⟩:=⟨⟨Tryz.t169,by kernel_rfl,rfl,rfl,_,rfl,fun c w=>aF (by rfl)⟩,⟨_,Tryz.underlying169,(fun _ h=>by cases h),(fun _ _ h=>by cases h)⟩,rfl⟩
theorem alm:bP Tryz.prog 176 ⟨(.struct [(0,3),(1,3),(2,3),(3,3)]),4,32,[.d true (.int .i64 0),.d true (.int .i64 0),.d true (.int .i64 0),.d true (.int .i64 0)]⟩:=⟨⟨Tryz.t176,by kernel_rfl,rfl,rfl,_,rfl,fun c w=>aF (by rfl)⟩,⟨_,Tryz.underlying176,by rfl⟩,rfl⟩
theorem aln:bP Tryz.prog 177 ⟨(.struct [(0,3),(1,3),(2,3),(3,3)]),4,32,[.d true (.int .i64 0),.d true (.int .i64 0),.d true (.int .i64 0),.d true (.int .i64 0)]⟩:=⟨⟨Tryz.t177,by kernel_rfl,rfl,rfl,_,rfl,fun c w=>aF (by rfl)⟩,⟨_,Tryz.underlying177,by rfl⟩,rfl⟩
theorem alo:bP Tryz.prog 201 ⟨(.slice 25),1,24,[.nil]⟩:=⟨⟨Tryz.t201,by kernel_rfl,rfl,rfl,_,rfl,fun c w=>aF (by rfl)⟩,Tryz.underlying201,rfl⟩
theorem alp:bP Tryz.prog 203 ⟨(.slice 93),1,24,[.nil]⟩:=⟨⟨Tryz.t203,by kernel_rfl,rfl,rfl,_,rfl,fun c w=>aF (by rfl)⟩,Tryz.underlying203,rfl⟩
theorem alq:bP Tryz.prog 209 ⟨(.int .i64),1,8,[.d true (.int .i64 0)]⟩:=⟨⟨Tryz.t209,by kernel_rfl,rfl,rfl,_,rfl,fun c w=>aF (by rfl)⟩,Tryz.underlying209,rfl⟩
theorem alr:bP Tryz.prog 216 ⟨(.int .u32),1,4,[.d true (.int .u32 0)]⟩:=⟨⟨Tryz.t216,by kernel_rfl,rfl,rfl,_,rfl,fun c w=>aF (by rfl)⟩,Tryz.underlying216,rfl⟩
theorem als:bP Tryz.prog 218 ⟨(.int .u64),1,8,[.d true (.int .u64 0)]⟩:=⟨⟨Tryz.t218,by kernel_rfl,rfl,rfl,_,rfl,fun c w=>aF (by rfl)⟩,Tryz.underlying218,rfl⟩
theorem alu:bP Tryz.prog 221 ⟨(.int .u64),1,8,[.d true (.int .u64 0)]⟩:=⟨⟨Tryz.t221,by kernel_rfl,rfl,rfl,_,rfl,fun c w=>aF (by rfl)⟩,Tryz.underlying221,rfl⟩
theorem alv:bP Tryz.prog 225 ⟨.scalar,1,8,[.np]⟩:=⟨⟨Tryz.t225,by kernel_rfl,rfl,rfl,_,rfl,fun c w=>aF (by rfl)⟩,⟨_,Tryz.underlying225,(fun _ h=>by cases h),(fun _ _ h=>by cases h)⟩,rfl⟩
theorem alx:bP Tryz.prog 227 ⟨.scalar,1,8,[.np]⟩:=⟨⟨Tryz.t227,by kernel_rfl,rfl,rfl,_,rfl,fun c w=>aF (by rfl)⟩,⟨_,Tryz.underlying227,(fun _ h=>by cases h),(fun _ _ h=>by cases h)⟩,rfl⟩
theorem aly:bP Tryz.prog 231 ⟨(.struct [(0,17),(1,17),(2,17),(3,9)]),4,40,[.np,.np,.np,.d true (.str ⟨#[]⟩)]⟩:=⟨⟨Tryz.t231,by kernel_rfl,rfl,rfl,_,rfl,fun c w=>aF (by rfl)⟩,⟨_,Tryz.underlying231,by rfl⟩,rfl⟩
theorem alz:bP Tryz.prog 232 ⟨(.struct [(0,17),(1,17),(2,17),(3,9)]),4,40,[.np,.np,.np,.d true (.str ⟨#[]⟩)]⟩:=⟨⟨Tryz.t232,by kernel_rfl,rfl,rfl,_,rfl,fun c w=>aF (by rfl)⟩,⟨_,Tryz.underlying232,by rfl⟩,rfl⟩
theorem alA:bP Tryz.prog 237 ⟨(.int .u8),1,1,[.d true (.int .u8 0)]⟩:=⟨⟨Tryz.t237,by kernel_rfl,rfl,rfl,_,rfl,fun c w=>aF (by rfl)⟩,Tryz.underlying237,rfl⟩
theorem alB:bP Tryz.prog 238 ⟨(.int .u8),1,1,[.d true (.int .u8 0)]⟩:=⟨⟨Tryz.t238,by kernel_rfl,rfl,rfl,_,rfl,fun c w=>aF (by rfl)⟩,Tryz.underlying238,rfl⟩
theorem alC:bP Tryz.prog 240 ⟨.scalar,1,8,[.np]⟩:=⟨⟨Tryz.t240,by kernel_rfl,rfl,rfl,_,rfl,fun c w=>aF (by rfl)⟩,⟨_,Tryz.underlying240,(fun _ h=>by cases h),(fun _ _ h=>by cases h)⟩,rfl⟩
theorem alD:bP Tryz.prog 241 ⟨(.int .i32),1,4,[.d true (.int .i32 0)]⟩:=⟨⟨Tryz.t241,by kernel_rfl,rfl,rfl,_,rfl,fun c w=>aF (by rfl)⟩,Tryz.underlying241,rfl⟩
theorem alE:bP Tryz.prog 242 ⟨(.int .i32),1,4,[.d true (.int .i32 0)]⟩:=⟨⟨Tryz.t242,by kernel_rfl,rfl,rfl,_,rfl,fun c w=>aF (by rfl)⟩,Tryz.underlying242,rfl⟩
theorem aol:∀t y,ty t=some y→bP Tryz.prog t y:=by
  intro t y h
  unfold ty at h
  split at h<;>first | (cases h;done) | skip
  · cases h;exact ok2
  · cases h;exact ok3
  · cases h;exact ok4
  · cases h;exact ok5
  · cases h;exact ok6
  · cases h;exact ok7
  · cases h;exact ok8
  · cases h;exact ok9
  · cases h;exact anK
  · cases h;exact anL
  · cases h;exact anM
  · cases h;exact anN
  · cases h;exact anO
  · cases h;exact anP
  · cases h;exact ok16
  · cases h;exact anQ
  · cases h;exact anR
  · cases h;exact anS
  · cases h;exact anT
  · cases h;exact anU
  · cases h;exact anV
  · cases h;exact anW
  · cases h;exact anX
  · cases h;exact anY
  · cases h;exact anZ
  · cases h;exact an0
  · cases h;exact an1
  · cases h;exact an2
  · cases h;exact an3
  · cases h;exact an4
  · cases h;exact an5
  · cases h;exact an6
  · cases h;exact an7
  · cases h;exact an8
  · cases h;exact an9
  · cases h;exact aoa
  · cases h;exact aob
  · cases h;exact aoc
  · cases h;exact aod
  · cases h;exact aoe
  · cases h;exact aof
  · cases h;exact aog
  · cases h;exact aoh
  · cases h;exact aoi
  · cases h;exact aoj
  · cases h;exact alb
  · cases h;exact alc
  · cases h;exact ald
  · cases h;exact ale
  · cases h;exact alf
  · cases h;exact alg
  · cases h;exact alh
  · cases h;exact ali
  · cases h;exact alj
  · cases h;exact alk
  · cases h;exact alm
  · cases h;exact aln
  · cases h;exact alo
  · cases h;exact alp
  · cases h;exact alq
  · cases h;exact alr
  · cases h;exact als
  · cases h;exact alu
  · cases h;exact alv
  · cases h;exact alx
  · cases h;exact aly
  · cases h;exact alz
  · cases h;exact alA
  · cases h;exact alB
  · cases h;exact alC
  · cases h;exact alD
  · cases h;exact alE
def co:TypeId→Option Co
  | 3=>some .i64
  | 4=>some .bool
  | 5=>some .u8
  | 9=>some .str
  | 25=>some .poly
  | 27=>some .poly
  | 29=>some .sym
  | 44=>some .blk
  | 58=>some .cer
  | 62=>some .tab
  | 68=>some .iop
  | 70=>some .ev
  | 93=>some .ints
  | 95=>some .mono
  | 124=>some .atom
  | 177=>some .ins
  | _=>none
def ieq:TypeId→Option Co
  | 68=>some .iop
  | 177=>some .ins
  | _=>none
def X:XT:={ty:=ty,co:=co,glob:=fun g=>none,ieq:=ieq}
noncomputable def E:Tab:={P:=Tryz.prog,ty:=ty,glob:=fun g=>none,ieq:=fun t=>(ieq t).map fun c=>c.size}
end Go.TX.Seat
namespace Go.TX.Seat
open Go Go.AE Go.TX Go.TX.F Go.Proofs
set_option maxRecDepth 100000
theorem ahM (A:Alg): @Ru aG.z X E A [] (.seq .u (.seq (.seq .u (.cut ⟨[(0,.c (.rows true .u8))],[]⟩ (.cond .u .u))) .u)) Al Tryz.f59 [] (EJ A):=fun _=>by kernel_rfl
theorem ahN (A:Alg): @Ru aG.z X E A [(7,[(0,([0],[])),(1,([47],[])),(2,([48],[])),(3,([49],[])),(4,([5],[])),(5,([0],[])),(6,([52],[])),(7,([53],[])),(8,([54],[])),(9,([55],[])),(10,([51,56],[])),(11,([50,57],[])),(12,([58],[])),(13,([59],[])),(14,([60],[])),(15,([0],[])),(16,([62],[])),(17,([63],[])),(18,([64],[])),(19,([5],[])),(20,([66],[])),(21,([67],[])),(22,([0],[])),(23,([69],[])),(24,([70],[])),(25,([71],[])),(26,([72],[])),(27,([68,73],[])),(28,([65,74],[])),(29,([75],[])),(30,([76],[])),(31,([77],[])),(32,([61,78],[])),(33,([5],[])),(34,([80],[])),(35,([79,81],[])),(36,([5],[])),(37,([0],[])),(38,([84],[])),(39,([85],[])),(40,([86],[])),(41,([87],[])),(42,([83,88],[])),(43,([89],[])),(44,([82,90],[])),(45,([91],[]))])] .u dO Tryz.f61 [] (EK A):=fun _=>by kernel_rfl
theorem ahO (A:Alg): @Ru aG.z X E A [] .u eH Tryz.f89 [] (EL A):=fun _=>by kernel_rfl
theorem ahP (A:Alg) (aI:Ct A.ah dO): @Ru aG.z X E A [] .u Am Tryz.f158 [(61,⟨_,aI⟩)] (EM A aI.pre aI.fn):=fun _=>by kernel_rfl
theorem ahQ (A:Alg): @Ru aG.z X E A [] (.seq .u (.seq .u (.seq (.seq .u (.cut ⟨[(3,.c (.int .i64))],[]⟩ (.cond .u .u))) .u))) Ao Tryz.f170 [] (EN A):=fun _=>by kernel_rfl
theorem ahR (A:Alg): @Ru aG.z X E A [] .u lK Tryz.f156 [] (EO A):=fun _=>by kernel_rfl
theorem ahS (A:Alg) (aO:Ct A.ah eH): @Ru aG.z X E A [] .u Ap Tryz.f192 [(89,⟨_,aO⟩)] (EP A aO.pre aO.fn):=fun _=>by kernel_rfl
theorem ahT (A:Alg) (oH:Ct A.ah Ap): @Ru aG.z X E A [] .u sj Tryz.f157 [(192,⟨_,oH⟩)] (ER A oH.pre oH.fn):=fun _=>by kernel_rfl
theorem ahU (A:Alg) (dD:Ct A.ah lK) (aO:Ct A.ah eH) (gL:Ct A.ah sj): @Ru aG.z X E A [] (.seq .u (.seq .u (.seq (.seq .u (.block (.seq .u (.cond .u (.seq .u (.cond .u (.seq .u (.cond .u (.seq (.seq .u (.cut ⟨[(0,.c (.rows false .iop)),(1,.c (.int .i64)),(2,.c (.int .i64)),(7,.c (.pb 0 5 0)),(13,.c (.int .i64)),(78,.c (.bool))],[.box (.sv false .iop)]⟩ (.cond .u .u))) .u))))))))) .u))) Aq Tryz.f90 [(156,⟨_,dD⟩),(89,⟨_,aO⟩),(157,⟨_,gL⟩)] (ET A dD.pre dD.fn aO.pre aO.fn gL.pre gL.fn):=fun _=>by kernel_rfl
theorem ahV (A:Alg) (dD:Ct A.ah lK) (gL:Ct A.ah sj): @Ru aG.z X E A [] (.seq .u (.seq .u (.seq (.seq .u (.block (.seq .u (.cond .u (.seq .u (.cond .u (.seq (.seq .u (.cut ⟨[(1,.c (.pb 0 7 0)),(3,.c (.int .i64)),(42,.c (.bool))],[.box (.sv false .blk)]⟩ (.cond .u .u))) .u))))))) .u))) Ar Tryz.f91 [(156,⟨_,dD⟩),(157,⟨_,gL⟩)] (EU A dD.pre dD.fn gL.pre gL.fn):=fun _=>by kernel_rfl
theorem ahW (A:Alg) (aO:Ct A.ah eH) (oI:Ct A.ah Ar) (oJ:Ct A.ah Aq): @Ru aG.z X E A [] (.seq .u (.seq .u (.seq (.seq .u (.block (.loop ⟨[(1,.c (.pb 0 7 0)),(3,.c (.int .i64))],[.box (.sv false .blk)]⟩ .u))) .u))) fG Tryz.f30 [(89,⟨_,aO⟩),(91,⟨_,oI⟩),(90,⟨_,oJ⟩)] (EW A aO.pre aO.fn oI.pre oI.fn oJ.pre oJ.fn):=fun _=>by kernel_rfl
theorem ahX (A:Alg) (oK:Ct A.ah Ao) (dD:Ct A.ah lK): @Ru aG.z X E A [] .u Au Tryz.f115 [(170,⟨_,oK⟩),(156,⟨_,dD⟩)] (EX A oK.pre oK.fn dD.pre dD.fn):=fun _=>by kernel_rfl
theorem ahY (A:Alg): @Ru aG.z X E A [] .u lM Tryz.f113 [] (EY A):=fun _=>by kernel_rfl
theorem ahZ (A:Alg) (aO:Ct A.ah eH): @Ru aG.z X E A [] (.seq .u (.seq .u (.seq (.seq .u (.cut ⟨[(1,.c (.rows false .i64)),(2,.c (.pb 0 5 0)),(4,.c (.pb 1 5 0)),(5,.c (.pb 2 5 0))],[.box (.sv false .iop),.box (.agg [.int .i64,.int .i64,.int .i64,.int .i64,.int .i64]),.box (.sv true .iop)]⟩ (.cond .u .u))) (.seq (.seq .u (.cut ⟨[(4,.c (.pb 0 5 0)),(5,.c (.pb 1 5 0))],[.box (.agg [.int .i64,.int .i64,.int .i64,.int .i64,.int .i64]),.box (.sv true .iop)]⟩ (.cond .u .u))) .u)))) su Tryz.f125 [(89,⟨_,aO⟩)] (EZ A aO.pre aO.fn):=fun _=>by kernel_rfl
theorem ah0 (A:Alg) (aU:Ct A.ah fG) (gM:Ct A.ah su) (dF:Ct A.ah lM): @Ru aG.z X E A [] (.seq .u (.seq .u (.seq .u (.seq .u (.seq .u (.seq (.seq .u (.block (.loop ⟨[(2,.c (.pb 0 7 0)),(3,.c (.pb 1 7 0)),(4,.c (.own 2)),(5,.c (.own 3)),(6,.c (.int .i64))],[.box (.agg [.int .i64,.int .i64,.nil,.int .i64,.int .i64,.int .i64,.int .i64]),.box (.agg [.int .i64,.int .i64,.own 4,.int .i64,.int .i64,.int .i64,.int .i64]),.rows true .i64,.rows true .i64,.rows true .iop]⟩ (.seq .u (.seq (.block (.seq .u (.seq .u (.seq .u (.seq (.seq .u (.cut ⟨[(2,.c (.pb 0 7 0)),(3,.c (.pb 1 7 0)),(4,.c (.own 2)),(5,.c (.own 3)),(6,.c (.int .i64)),(7,.c (.pb 4 5 0)),(8,.c (.int .i64))],[.box (.agg [.int .i64,.int .i64,.nil,.int .i64,.int .i64,.int .i64,.int .i64]),.box (.agg [.int .i64,.int .i64,.own 5,.int .i64,.int .i64,.int .i64,.int .i64]),.rows true .i64,.rows true .i64,.box (.sv true .iop),.rows true .iop]⟩ (.cond .u .u))) (.seq (.seq .u (.cut ⟨[(2,.c (.pb 0 7 0)),(3,.c (.pb 1 7 0)),(4,.c (.own 2)),(5,.c (.own 3)),(6,.c (.int .i64)),(7,.c (.pb 4 5 0)),(8,.c (.int .i64))],[.box (.agg [.int .i64,.int .i64,.nil,.int .i64,.int .i64,.int .i64,.int .i64]),.box (.agg [.int .i64,.int .i64,.own 5,.int .i64,.int .i64,.int .i64,.int .i64]),.rows true .i64,.rows true .i64,.box (.sv true .iop),.rows true .iop]⟩ (.cond .u .u))) (.seq (.seq .u (.cut ⟨[(2,.c (.pb 0 7 0)),(3,.c (.pb 1 7 0)),(4,.c (.own 2)),(5,.c (.own 3)),(6,.c (.int .i64)),(8,.c (.int .i64))],[.box (.agg [.int .i64,.int .i64,.nil,.int .i64,.int .i64,.int .i64,.int .i64]),.box (.agg [.int .i64,.int .i64,.own 4,.int .i64,.int .i64,.int .i64,.int .i64]),.rows true .i64,.rows true .i64,.rows true .iop]⟩ (.cond .u .u))) .u))))))) .u))))) (.seq (.seq .u (.cut ⟨[(2,.c (.pb 0 7 0)),(3,.c (.pb 1 7 0)),(4,.c (.own 2))],[.box (.agg [.int .i64,.int .i64,.nil,.int .i64,.int .i64,.int .i64,.int .i64]),.box (.agg [.int .i64,.int .i64,.own 3,.int .i64,.int .i64,.int .i64,.int .i64]),.rows true .i64,.rows true .iop]⟩ (.cond .u .u))) (.seq (.seq .u (.cut ⟨[(2,.c (.pb 0 7 0)),(3,.c (.pb 1 7 0))],[.box (.agg [.int .i64,.int .i64,.nil,.int .i64,.int .i64,.int .i64,.int .i64]),.box (.agg [.int .i64,.int .i64,.own 2,.int .i64,.int .i64,.int .i64,.int .i64]),.rows true .iop]⟩ (.cond .u .u))) .u)))))))) lN Tryz.f54 [(30,⟨_,aU⟩),(125,⟨_,gM⟩),(113,⟨_,dF⟩)] (E5 A aU.pre aU.fn gM.pre gM.fn dF.pre dF.fn):=fun _=>by kernel_rfl
theorem ah1 (A:Alg): @Ru aG.z X E A [] .u sw Tryz.f114 [] (Fa A):=fun _=>by kernel_rfl
theorem ah2 (A:Alg): @Ru aG.z X E A [] .u Av Tryz.f171 [] (Fb A):=fun _=>by kernel_rfl
theorem ah3 (A:Alg) (oL:Ct A.ah Av) (gN:Ct A.ah sw): @Ru aG.z X E A [] (.seq .u (.seq .u (.seq .u (.seq (.block (.seq .u (.cond .u (.seq (.seq .u (.cut ⟨[(1,.c (.pb 0 7 0)),(2,.c (.pb 1 7 0)),(4,.c (.bool)),(6,.c (.bool)),(33,.c (.bool))],[.box (.sv false .blk),.box (.agg [.int .i64,.int .i64,.nil,.int .i64,.int .i64,.int .i64,.int .i64])]⟩ (.cond .u .u))) .u)))) .u)))) Aw Tryz.f116 [(171,⟨_,oL⟩),(114,⟨_,gN⟩)] (Fe A oL.pre oL.fn gN.pre gN.fn):=fun _=>by kernel_rfl
theorem ah4 (A:Alg) (aU:Ct A.ah fG) (oM:Ct A.ah Au) (oN:Ct A.ah Aw) (gN:Ct A.ah sw) (dF:Ct A.ah lM): @Ru aG.z X E A [(11,[(0,([3],[])),(1,([53],[])),(2,([4],[])),(3,([5],[])),(4,([56],[])),(5,([6],[])),(6,([8],[])),(7,([57,58,59],[1])),(8,([60],[])),(9,([54,55],[])),(10,([61,62],[]))])] (.seq .u (.seq .u (.seq .u (.seq (.seq .u (.block (.loop ⟨[(2,.c (.pb 0 7 0)),(3,.c (.pb 1 7 0)),(4,.c (.int .i64))],[.box (.agg [.int .i64,.int .i64,.nil,.int .i64,.int .i64,.int .i64,.int .i64]),.box (.agg [.int .i64,.int .i64,.own 2,.int .i64,.int .i64,.int .i64,.int .i64]),.rows true .iop]⟩ (.seq .u (.seq (.block (.seq .u (.seq .u (.seq .u (.seq .u (.cut ⟨[(2,.c (.pb 0 7 0)),(3,.c (.pb 1 7 0)),(4,.c (.int .i64))],[.box (.agg [.int .i64,.int .i64,.nil,.int .i64,.int .i64,.int .i64,.int .i64]),.box (.agg [.int .i64,.int .i64,.own 2,.int .i64,.int .i64,.int .i64,.int .i64]),.rows true .iop]⟩ (.cond .u .u))))))) .u))))) .u)))) sD Tryz.f42 [(30,⟨_,aU⟩),(115,⟨_,oM⟩),(116,⟨_,oN⟩),(114,⟨_,gN⟩),(113,⟨_,dF⟩)] (Fj A aU.pre aU.fn oM.pre oM.fn oN.pre oN.fn gN.pre gN.fn dF.pre dF.fn):=fun _=>by kernel_rfl
theorem ah5 (A:Alg): @Ru aG.z X E A [(4,[(0,([0],[])),(1,([5],[])),(2,([14,15],[])),(3,([16],[])),(4,([17],[])),(5,([18],[])),(6,([19],[])),(7,([0,20],[])),(8,([5,20],[])),(9,([20,21,22],[])),(10,([20,23],[])),(11,([20,24],[])),(12,([20,25],[])),(13,([20,26],[])),(14,([27],[])),(15,([0,28],[])),(16,([5,28],[])),(17,([28,29,30],[])),(18,([28,31],[])),(19,([28,32],[])),(20,([28,33],[])),(21,([28,34],[])),(22,([0,35],[])),(23,([5,35],[])),(24,([35,36,37],[])),(25,([35,38],[])),(26,([35,39],[])),(27,([0,35],[])),(28,([1,35],[])),(29,([35,41,42],[])),(30,([35,43],[])),(31,([35,44],[])),(32,([35,40,45],[])),(33,([28,35,46],[])),(34,([28,47],[]))]),(6,[(0,([0],[])),(1,([5],[])),(2,([49,50],[])),(3,([51],[])),(4,([52],[])),(5,([53],[])),(6,([54],[])),(7,([0,55],[])),(8,([5,55],[])),(9,([55,56,57],[])),(10,([55,58],[])),(11,([55,59],[])),(12,([0,55],[])),(13,([1,55],[])),(14,([55,61,62],[])),(15,([55,63],[])),(16,([55,64],[])),(17,([55,60,65],[])),(18,([55,66],[]))])] (.seq .u (.seq (.seq .u (.block (.loop ⟨[(0,.c (.rows false .iop)),(1,.c (.int .i64)),(5,.c (.int .i64))],[]⟩ .u))) .u)) Ay Tryz.f118 [] (Fp A):=fun _=>by kernel_rfl
theorem ah6 (A:Alg) (gM:Ct A.ah su): @Ru aG.z X E A [] (.seq .u (.seq .u (.seq .u (.seq (.seq .u (.block (.loop ⟨[(1,.c (.rows false .bool)),(2,.c (.pb 0 7 0)),(4,.c (.pb 1 7 0)),(5,.c (.own 2)),(6,.c (.own 3)),(7,.c (.int .i64))],[.box (.sv false .blk),.box (.agg [.int .i64,.int .i64,.nil,.int .i64,.int .i64,.int .i64,.int .i64]),.rows true .iop,.rows true .i64]⟩ (.seq .u (.seq (.block (.seq .u (.seq .u (.cut ⟨[(1,.c (.rows false .bool)),(2,.c (.pb 0 7 0)),(4,.c (.pb 1 7 0)),(5,.c (.own 2)),(6,.c (.own 3)),(7,.c (.int .i64))],[.box (.sv false .blk),.box (.agg [.int .i64,.int .i64,.nil,.int .i64,.int .i64,.int .i64,.int .i64]),.rows true .iop,.rows true .i64]⟩ (.cond .u .u))))) .u))))) (.seq .u (.seq .u (.seq (.seq .u (.cut ⟨[(2,.c (.pb 0 7 0)),(4,.c (.pb 1 7 0)),(6,.c (.own 2)),(8,.c (.pb 3 7 0))],[.box (.sv false .blk),.box (.agg [.int .i64,.int .i64,.nil,.int .i64,.int .i64,.int .i64,.int .i64]),.rows true .i64,.box (.agg [.int .i64,.int .i64,.own 4,.int .i64,.int .i64,.int .i64,.int .i64]),.rows true .iop]⟩ (.cond .u .u))) (.seq (.seq .u (.cut ⟨[(4,.c (.pb 0 7 0)),(8,.c (.pb 1 7 0))],[.box (.agg [.int .i64,.int .i64,.nil,.int .i64,.int .i64,.int .i64,.int .i64]),.box (.agg [.int .i64,.int .i64,.own 2,.int .i64,.int .i64,.int .i64,.int .i64]),.rows true .iop]⟩ (.cond .u .u))) .u)))))))) sF Tryz.f119 [(125,⟨_,gM⟩)] (Fq A gM.pre gM.fn):=fun _=>by kernel_rfl
end Go.TX.Seat
namespace Go.TX.Seat
open Go Go.AE Go.TX Go.TX.F Go.Proofs
set_option maxRecDepth 100000
theorem ah7 (A:Alg) (aU:Ct A.ah fG) (gP:Ct A.ah sF) (oO:Ct A.ah Ay): @Ru aG.z X E A [] (.seq .u (.seq .u (.seq .u (.seq (.seq .u (.block (.loop ⟨[(1,.c (.pb 0 7 0)),(2,.c (.pb 1 7 0)),(3,.c (.own 2)),(4,.c (.int .i64))],[.box (.sv false .blk),.box (.agg [.int .i64,.int .i64,.nil,.int .i64,.int .i64,.int .i64,.int .i64]),.rows true .bool]⟩ .u))) .u)))) Az Tryz.f45 [(30,⟨_,aU⟩),(119,⟨_,gP⟩),(118,⟨_,oO⟩)] (Fu A aU.pre aU.fn gP.pre gP.fn oO.pre oO.fn):=fun _=>by kernel_rfl
theorem ah8 (A:Alg) (aU:Ct A.ah fG) (aO:Ct A.ah eH): @Ru aG.z X E A [] (.seq .u (.seq .u (.seq .u (.seq (.seq .u (.block (.loop ⟨[(1,.c (.pb 0 7 0)),(3,.c (.own 1)),(4,.c (.int .i64))],[.box (.sv false .blk),.rows true .bool]⟩ .u))) (.seq (.seq .u (.cut ⟨[(1,.c (.pb 0 7 0)),(3,.c (.own 1))],[.box (.sv false .blk),.rows true .bool]⟩ (.cond .u .u))) (.seq (.seq .u (.cut ⟨[(1,.c (.pb 0 7 0)),(3,.c (.own 1))],[.box (.sv false .blk),.rows true .bool]⟩ (.cond .u .u))) (.seq (.seq .u (.block (.loop ⟨[(1,.c (.pb 0 7 0)),(3,.c (.own 1)),(5,.c (.int .i64))],[.box (.sv false .blk),.rows true .bool]⟩ (.seq .u (.seq (.cut ⟨[(1,.c (.pb 0 7 0)),(3,.c (.own 1)),(5,.c (.int .i64))],[.box (.sv false .blk),.rows true .bool]⟩ (.block (.seq .u (.seq .u (.seq (.seq .u (.cut ⟨[(1,.c (.pb 0 7 0)),(3,.c (.own 1)),(5,.c (.int .i64)),(6,.c (.pb 2 5 0))],[.box (.sv false .blk),.rows true .bool,.box (.sv false .iop)]⟩ (.cond .u .u))) (.seq .u (.cut ⟨[(1,.c (.pb 0 7 0)),(3,.c (.own 1)),(5,.c (.int .i64))],[.box (.sv false .blk),.rows true .bool]⟩ (.cond .u .u)))))))) .u))))) .u))))))) AA Tryz.f50 [(30,⟨_,aU⟩),(89,⟨_,aO⟩)] (Fv A aU.pre aU.fn aO.pre aO.fn):=fun _=>by kernel_rfl
theorem ah9 (A:Alg) (aU:Ct A.ah fG) (oP:Ct A.ah AA) (gP:Ct A.ah sF): @Ru aG.z X E A [(3,[(0,([1],[])),(1,([1],[])),(2,([8],[0])),(3,([7,9],[])),(4,([2,10],[]))])] .u AB Tryz.f49 [(30,⟨_,aU⟩),(50,⟨_,oP⟩),(119,⟨_,gP⟩)] (Fw A aU.pre aU.fn oP.pre oP.fn gP.pre gP.fn):=fun _=>by kernel_rfl
theorem aia (A:Alg) (gQ:Ct A.ah sD) (dG:Ct A.ah lN) (oQ:Ct A.ah AB) (oU:Ct A.ah Az): @Ru aG.z X E A [] .u AJ Tryz.f57 [(42,⟨_,gQ⟩),(54,⟨_,dG⟩),(49,⟨_,oQ⟩),(45,⟨_,oU⟩)] (Fx A gQ.pre gQ.fn dG.pre dG.fn oQ.pre oQ.fn oU.pre oU.fn):=fun _=>by kernel_rfl
theorem aib (A:Alg) (aI:Ct A.ah dO): @Ru aG.z X E A [] (.seq .u (.seq .u (.seq .u (.seq (.seq .u (.block (.seq (.seq .u (.cut ⟨[(0,.c (.pb 0 2 0)),(2,.c (.pb 1 4 0)),(3,.c (.int .i64)),(4,.c (.int .i64)),(10,.c (.int .i64)),(11,.c (.bool))],[.box (.agg [.rows true .u8,.int .i64]),.box (.agg [.int .i64,.int .i64,.int .i64,.int .i64])]⟩ (.cond .u .u))) (.cond .u (.seq .u (.cond .u (.seq (.seq .u (.cut ⟨[(0,.c (.pb 0 2 0)),(2,.c (.pb 1 4 0)),(3,.c (.int .i64)),(4,.c (.int .i64)),(10,.c (.int .i64)),(30,.c (.bool))],[.box (.agg [.rows true .u8,.int .i64]),.box (.agg [.int .i64,.int .i64,.int .i64,.int .i64])]⟩ (.cond .u (.seq .u (.cut ⟨[(0,.c (.pb 0 2 0)),(2,.c (.pb 1 4 0)),(3,.c (.int .i64)),(4,.c (.int .i64)),(10,.c (.int .i64)),(30,.c (.bool))],[.box (.agg [.rows true .u8,.int .i64]),.box (.agg [.int .i64,.int .i64,.int .i64,.int .i64])]⟩ (.cond .u .u)))))) (.cond .u (.seq .u (.cond .u (.seq (.seq .u (.cut ⟨[(0,.c (.pb 0 2 0)),(2,.c (.pb 1 4 0)),(3,.c (.int .i64)),(4,.c (.int .i64)),(10,.c (.int .i64)),(54,.c (.bool))],[.box (.agg [.rows true .u8,.int .i64]),.box (.agg [.int .i64,.int .i64,.int .i64,.int .i64])]⟩ (.cond .u .u))) .u))))))))))) .u)))) AL Tryz.f204 [(61,⟨_,aI⟩)] (FB A aI.pre aI.fn):=fun _=>by kernel_rfl
theorem aic (A:Alg): @Ru aG.z X E A [] (.seq .u (.seq (.seq .u (.block (.seq .u (.cond .u (.seq .u (.cond .u (.seq .u (.cond .u (.seq (.seq .u (.cut ⟨[(1,.c (.pb 0 4 0)),(4,.c (.int .i64)),(30,.c (.bool))],[.box (.sv false .ins)]⟩ (.cond .u (.seq .u (.cut ⟨[(1,.c (.pb 0 4 0)),(4,.c (.int .i64)),(30,.c (.bool))],[.box (.sv false .ins)]⟩ (.cond .u (.seq .u (.cut ⟨[(1,.c (.pb 0 4 0)),(4,.c (.int .i64)),(30,.c (.bool))],[.box (.sv false .ins)]⟩ (.cond .u (.seq .u (.cut ⟨[(1,.c (.pb 0 4 0)),(4,.c (.int .i64)),(30,.c (.bool))],[.box (.sv false .ins)]⟩ (.cond .u .u)))))))))))) (.cond .u (.seq .u (.cond .u (.seq .u (.cond .u (.seq (.seq .u (.cut ⟨[(1,.c (.pb 0 4 0)),(54,.c (.bool))],[.box (.sv false .ins)]⟩ (.cond .u .u))) .u))))))))))))))) .u)) AO Tryz.f222 [] (FC A):=fun _=>by kernel_rfl
theorem aie (A:Alg) (aO:Ct A.ah eH) (oV:Ct A.ah AO): @Ru aG.z X E A [] .u sG Tryz.f206 [(89,⟨_,aO⟩),(222,⟨_,oV⟩)] (FD A aO.pre aO.fn oV.pre oV.fn):=fun _=>by kernel_rfl
theorem aif (A:Alg): @Ru aG.z X E A [] .u sH Tryz.f207 [] (FH A):=fun _=>by kernel_rfl
theorem aii (A:Alg) (gT:Ct A.ah sH) (gU:Ct A.ah sG): @Ru aG.z X E A [] .u sI Tryz.f205 [(207,⟨_,gT⟩),(206,⟨_,gU⟩)] (FJ A gT.pre gT.fn gU.pre gU.fn):=fun _=>by kernel_rfl
theorem aij (A:Alg) (oW:Ct A.ah AL) (aI:Ct A.ah dO) (gV:Ct A.ah sI): @Ru aG.z X E A [(3,[(0,([3],[])),(1,([9],[])),(2,([3],[])),(3,([11],[])),(4,([0],[])),(5,([13],[1,3])),(6,([10,12,14],[])),(7,([2,15],[]))])] .u AP Tryz.f182 [(204,⟨_,oW⟩),(61,⟨_,aI⟩),(205,⟨_,gV⟩)] (FK A oW.pre oW.fn aI.pre aI.fn gV.pre gV.fn):=fun _=>by kernel_rfl
theorem aik (A:Alg) (oZ:Ct A.ah AP) (aI:Ct A.ah dO): @Ru aG.z X E A [] (.seq .u (.seq .u (.seq (.seq .u (.block (.loop ⟨[(0,.c (.pb 0 2 0)),(3,.c (.own 1)),(4,.c (.int .i64))],[.box (.agg [.rows true .u8,.int .i64]),.rows true .ins]⟩ .u))) .u))) AQ Tryz.f139 [(182,⟨_,oZ⟩),(61,⟨_,aI⟩)] (FL A oZ.pre oZ.fn aI.pre aI.fn):=fun _=>by kernel_rfl
theorem ail (A:Alg) (gT:Ct A.ah sH) (gU:Ct A.ah sG) (aO:Ct A.ah eH) (gV:Ct A.ah sI): @Ru aG.z X E A [] (.seq .u (.seq .u (.seq (.seq .u (.block (.loop ⟨[(1,.c (.rows false .ins)),(5,.c (.int .i64))],[]⟩ .u))) .u))) AU Tryz.f183 [(207,⟨_,gT⟩),(206,⟨_,gU⟩),(89,⟨_,aO⟩),(205,⟨_,gV⟩)] (FN A gT.pre gT.fn gU.pre gU.fn aO.pre aO.fn gV.pre gV.fn):=fun _=>by kernel_rfl
theorem ain (A:Alg): @Ru aG.z X E A [(2,[(0,([2],[])),(1,([2],[])),(2,([13],[])),(3,([14],[])),(4,([15],[])),(5,([4,12],[2])),(6,([16],[]))])] .u iA Tryz.f208 [] (FP A):=fun _=>by kernel_rfl
theorem aio (A:Alg) (bC:Ct A.ah iA): @Ru aG.z X E A [] .u sJ Tryz.f209 [(208,⟨_,bC⟩)] (FQ A bC.pre bC.fn):=fun _=>by kernel_rfl
theorem aip (A:Alg) (bC:Ct A.ah iA): @Ru aG.z X E A [] .u je Tryz.f210 [(208,⟨_,bC⟩)] (FR A bC.pre bC.fn):=fun _=>by kernel_rfl
theorem aiq (A:Alg) (bO:Ct A.ah je) (bC:Ct A.ah iA): @Ru aG.z X E A [] .u sK Tryz.f211 [(210,⟨_,bO⟩),(208,⟨_,bC⟩)] (FT A bO.pre bO.fn bC.pre bC.fn):=fun _=>by kernel_rfl
theorem air (A:Alg): @Ru aG.z X E A [] (.seq .u (.seq .u (.seq (.seq .u (.block (.loop ⟨[(0,.c (.int .i64)),(3,.c (.int .i64)),(4,.c (.int .i64))],[]⟩ .u))) .u))) AV Tryz.f212 [] (FU A):=fun _=>by kernel_rfl
theorem ais (A:Alg) (bO:Ct A.ah je) (bC:Ct A.ah iA) (gW:Ct A.ah sK) (gX:Ct A.ah sJ): @Ru aG.z X E A [] .u AX Tryz.f213 [(210,⟨_,bO⟩),(208,⟨_,bC⟩),(211,⟨_,gW⟩),(209,⟨_,gX⟩)] (FV A bO.pre bO.fn bC.pre bC.fn gW.pre gW.fn gX.pre gX.fn):=fun _=>by kernel_rfl
theorem ait (A:Alg) (bO:Ct A.ah je): @Ru aG.z X E A [] (.seq .u (.seq .u (.seq .u (.seq .u (.seq .u (.seq (.seq .u (.cut ⟨[(3,.c (.pb 1 4 0)),(4,.c (.pb 2 7 0)),(8,.c (.int .i64)),(9,.c (.pb 3 7 0)),(10,.c (.int .i64))],[.gone,.box (.sv false .ins),.box (.agg [.int .i64,.int .i64,.nil,.int .i64,.int .i64,.int .i64,.int .i64]),.box (.agg [.int .i64,.int .i64,.own 4,.int .i64,.int .i64,.int .i64,.int .i64]),.rows true .iop]⟩ (.cond .u .u))) .u)))))) AY Tryz.f214 [(210,⟨_,bO⟩)] (FW A bO.pre bO.fn):=fun _=>by kernel_rfl
theorem aiu (A:Alg) (bO:Ct A.ah je) (o7:Ct A.ah AY) (bC:Ct A.ah iA) (o8:Ct A.ah AX) (gW:Ct A.ah sK) (gX:Ct A.ah sJ) (o9:Ct A.ah AV): @Ru aG.z X E A [(9,[(0,([3],[])),(1,([4],[])),(2,([56],[])),(3,([4],[])),(4,([58],[])),(5,([59],[0,2])),(6,([60],[])),(7,([55,57,61],[])),(8,([62],[])),(9,([54],[])),(10,([54],[])),(11,([],[])),(12,([11,63],[])),(13,([64],[]))])] (.seq .u (.seq (.seq .u (.block (.seq .u (.cond .u (.seq .u (.cond .u (.seq .u (.cond .u (.seq (.seq .u (.cut ⟨[(2,.c (.int .i64)),(3,.c (.pb 1 7 0)),(4,.c (.pb 2 4 0)),(6,.c (.pb 3 7 0)),(22,.c (.int .i64)),(70,.c (.bool))],[.rows true .iop,.box (.agg [.int .i64,.int .i64,.own 0,.int .i64,.int .i64,.int .i64,.int .i64]),.box (.sv false .ins),.box (.agg [.int .i64,.int .i64,.nil,.int .i64,.int .i64,.int .i64,.int .i64])]⟩ (.cond .u .u))) (.cond .u (.seq .u (.cond .u (.seq .u (.cond .u (.seq (.seq .u (.cut ⟨[(3,.c (.pb 1 7 0)),(4,.c (.pb 2 4 0)),(6,.c (.pb 3 7 0)),(109,.c (.bool))],[.rows true .iop,.box (.agg [.int .i64,.int .i64,.own 0,.int .i64,.int .i64,.int .i64,.int .i64]),.box (.sv false .ins),.box (.agg [.int .i64,.int .i64,.nil,.int .i64,.int .i64,.int .i64,.int .i64])]⟩ (.cond .u (.seq .u (.cut ⟨[(3,.c (.pb 1 7 0)),(4,.c (.pb 2 4 0)),(6,.c (.pb 3 7 0)),(109,.c (.bool))],[.rows true .iop,.box (.agg [.int .i64,.int .i64,.own 0,.int .i64,.int .i64,.int .i64,.int .i64]),.box (.sv false .ins),.box (.agg [.int .i64,.int .i64,.nil,.int .i64,.int .i64,.int .i64,.int .i64])]⟩ (.cond .u .u)))))) .u))))))))))))))) .u)) AZ Tryz.f184 [(210,⟨_,bO⟩),(214,⟨_,o7⟩),(208,⟨_,bC⟩),(213,⟨_,o8⟩),(211,⟨_,gW⟩),(209,⟨_,gX⟩),(212,⟨_,o9⟩)] (FX A bO.pre bO.fn o7.pre o7.fn bC.pre bC.fn o8.pre o8.fn gW.pre gW.fn gX.pre gX.fn o9.pre o9.fn):=fun _=>by kernel_rfl
theorem aiv (A:Alg) (pq:Ct A.ah AU) (pz:Ct A.ah AZ): @Ru aG.z X E A [(7,[(0,([5],[])),(1,([1],[])),(2,([6],[])),(3,([27,28],[])),(4,([29],[])),(5,([6],[])),(6,([26,30,31],[])),(7,([5,32],[]))])] (.seq .u (.seq .u (.seq .u (.seq (.seq .u (.block (.loop ⟨[(1,.c (.rows false .ins)),(4,.c (.pb 0 7 0)),(5,.c (.pb 1 7 0)),(6,.c (.int .i64))],[.box (.agg [.int .i64,.int .i64,.nil,.int .i64,.int .i64,.int .i64,.int .i64]),.box (.agg [.int .i64,.int .i64,.own 2,.int .i64,.int .i64,.int .i64,.int .i64]),.rows true .iop]⟩ .u))) .u)))) A8 Tryz.f140 [(183,⟨_,pq⟩),(184,⟨_,pz⟩)] (FY A pq.pre pq.fn pz.pre pz.fn):=fun _=>by kernel_rfl
theorem aiw (A:Alg) (pE:Ct A.ah A8) (pF:Ct A.ah AJ) (dG:Ct A.ah lN) (aI:Ct A.ah dO) (pG:Ct A.ah AQ): @Ru aG.z X E A [] .u A9 Tryz.f66 [(140,⟨_,pE⟩),(57,⟨_,pF⟩),(54,⟨_,dG⟩),(61,⟨_,aI⟩),(139,⟨_,pG⟩)] (FZ A pE.pre pE.fn pF.pre pF.fn dG.pre dG.fn aI.pre aI.fn pG.pre pG.fn):=fun _=>by kernel_rfl
theorem aom (A:Alg): @Ru aG.z X E A [] .u Kw Tryz.f148 [] (Xd A):=fun _=>by kernel_rfl
theorem aon (A:Alg) (sM:Ct A.ah Kw): @Ru aG.z X E A [] .u CO Tryz.f80 [(148,⟨_,sM⟩)] (Xe A sM.pre sM.fn):=fun _=>by kernel_rfl
theorem aoo (A:Alg): @Ru aG.z X E A [] (.seq .u (.seq .u (.seq (.seq .u (.block (.loop ⟨[(3,.c (.int .i64)),(6,.c (.rows false .i64)),(7,.c (.int .i64)),(8,.c (.int .i64))],[]⟩ .u))) .u))) Ky Tryz.f81 [] (Xh A):=fun _=>by kernel_rfl
theorem alF (A:Alg) (ku:Ct A.ah CO): @Ru aG.z X E A [] (.seq .u (.seq (.seq .u (.block (.loop ⟨[(0,.c (.rows false .i64)),(1,.c (.rows false .i64)),(9,.c (.rows false .i64)),(10,.c (.int .i64)),(11,.c (.int .i64))],[]⟩ .u))) .u)) Iu Tryz.f149 [(80,⟨_,ku⟩)] (MV A ku.pre ku.fn):=fun _=>by kernel_rfl
theorem alG (A:Alg) (sN:Ct A.ah Ky) (ku:Ct A.ah CO) (wH:Ct A.ah Iu): @Ru aG.z X E A [] .u mW Tryz.f82 [(81,⟨_,sN⟩),(80,⟨_,ku⟩),(149,⟨_,wH⟩)] (MW A sN.pre sN.fn ku.pre ku.fn wH.pre wH.fn):=fun _=>by kernel_rfl
theorem alH (A:Alg): @Ru aG.z X E A [] .u bZ Tryz.f121 [] (MX A):=fun _=>by kernel_rfl
theorem aop (A:Alg) (sM:Ct A.ah Kw): @Ru aG.z X E A [] .u CP Tryz.f185 [(148,⟨_,sM⟩)] (Xi A sM.pre sM.fn):=fun _=>by kernel_rfl
theorem aix (A:Alg) (kC:Ct A.ah CP): @Ru aG.z X E A [(4,[(0,([0],[])),(1,([3],[])),(2,([11,12],[])),(3,([13],[])),(4,([0],[])),(5,([3],[])),(6,([16],[])),(7,([15,17],[])),(8,([18],[])),(9,([14,19],[]))])] (.seq .u (.seq (.seq .u (.block (.loop ⟨[(0,.c (.rows false .i64)),(3,.c (.int .i64))],[]⟩ .u))) .u)) Ba Tryz.f141 [(185,⟨_,kC⟩)] (F3 A kC.pre kC.fn):=fun _=>by kernel_rfl
theorem alI (A:Alg): @Ru aG.z X E A [] .u Iw Tryz.f187 [] (MZ A):=fun _=>by kernel_rfl
theorem aiy (A:Alg) (wI:Ct A.ah Iw): @Ru aG.z X E A [] (.seq .u (.seq (.seq .u (.block (.loop ⟨[(0,.c (.rows false .i64)),(1,.c (.fn 187 [(0,1)])),(7,.c (.int .i64)),(8,.c (.int .i64))],[.box (.c (.int .i64))]⟩ .u))) .u)) Bb Tryz.f215 [(187,⟨_,wI⟩)] (F4 A wI.pre wI.fn):=fun _=>by kernel_rfl
theorem aiz (A:Alg) (pI:Ct A.ah Bb): @Ru aG.z X E A [] .u Bc Tryz.f186 [(215,⟨_,pI⟩)] (F5 A pI.pre pI.fn):=fun _=>by kernel_rfl
theorem alJ (A:Alg) (pJ:Ct A.ah Bc): @Ru aG.z X E A [] (.seq .u (.seq (.seq .u (.block (.loop ⟨[(3,.c (.pb 0 1 0)),(8,.c (.rows false .mono)),(9,.c (.int .i64)),(10,.c (.int .i64))],[.box (.c (.int .i64))]⟩ .u))) .u)) yZ Tryz.f142 [(186,⟨_,pJ⟩)] (M0 A pJ.pre pJ.fn):=fun _=>by kernel_rfl
theorem alK (A:Alg): @Ru aG.z X E A [] .u Iy Tryz.f144 [] (M4 A):=fun _=>by kernel_rfl
theorem aiA (A:Alg) (wJ:Ct A.ah Iy): @Ru aG.z X E A [] (.seq .u (.seq (.seq .u (.block (.loop ⟨[(0,.c (.rows false .mono)),(1,.c (.fn 144 [])),(7,.c (.int .i64)),(8,.c (.int .i64))],[]⟩ .u))) .u)) Bd Tryz.f188 [(144,⟨_,wJ⟩)] (F6 A wJ.pre wJ.fn):=fun _=>by kernel_rfl
theorem aiB (A:Alg) (pK:Ct A.ah Bd): @Ru aG.z X E A [] .u Bf Tryz.f143 [(188,⟨_,pK⟩)] (F7 A pK.pre pK.fn):=fun _=>by kernel_rfl
theorem alL (A:Alg) (aC:Ct A.ah bZ) (jD:Ct A.ah yZ) (pO:Ct A.ah Ba) (dM:Ct A.ah mW) (pQ:Ct A.ah Bf): @Ru aG.z X E A [(4,[(0,([4],[])),(1,([13],[])),(2,([14],[])),(3,([15],[])),(4,([16],[])),(5,([4,17],[])),(6,([17,18],[])),(7,([17,19],[])),(8,([17,20],[])),(9,([17,21],[])),(10,([22],[])),(11,([4,23],[])),(12,([23,24],[])),(13,([23,25],[])),(14,([23,26],[])),(15,([23,27],[])),(16,([28],[])),(17,([3,29],[])),(18,([29,30],[])),(19,([29,31],[])),(20,([1,32],[])),(21,([32,33],[])),(22,([3,32],[])),(23,([32,35],[])),(24,([32,34,36],[])),(25,([32,37],[])),(26,([32,38],[])),(27,([4,32],[])),(28,([32,40],[])),(29,([32,39,41],[])),(30,([32,42],[])),(31,([29,32,43],[])),(32,([29,44],[]))])] (.seq .u (.seq (.seq .u (.block (.loop ⟨[(1,.c (.pb 0 1 0)),(6,.c (.rows false .mono)),(7,.c (.int .i64)),(8,.c (.int .i64))],[.box (.sv false .poly)]⟩ .u))) .u)) iD Tryz.f67 [(121,⟨_,aC⟩),(142,⟨_,jD⟩),(141,⟨_,pO⟩),(82,⟨_,dM⟩),(143,⟨_,pQ⟩)] (M5 A aC.pre aC.fn jD.pre jD.fn pO.pre pO.fn dM.pre dM.fn pQ.pre pQ.fn):=fun _=>by kernel_rfl
theorem alM (A:Alg) (bB:Ct A.ah iD): @Ru aG.z X E A [] .u y7 Tryz.f22 [(67,⟨_,bB⟩)] (M6 A bB.pre bB.fn):=fun _=>by kernel_rfl
theorem alN (A:Alg) (sN:Ct A.ah Ky) (ku:Ct A.ah CO) (dM:Ct A.ah mW): @Ru aG.z X E A [(7,[(0,([7],[])),(1,([27],[])),(2,([3],[])),(3,([29],[])),(4,([6],[])),(5,([30,31],[])),(6,([32],[])),(7,([33],[])),(9,([7],[])),(10,([36],[])),(11,([3],[])),(12,([38],[])),(13,([6],[])),(14,([39,40],[])),(15,([41],[])),(16,([42],[])),(8,([28,34],[10,12,16])),(17,([37,43],[])),(18,([35,44],[])),(19,([45],[])),(20,([46],[]))])] (.seq .u (.seq .u (.seq (.seq .u (.block (.loop ⟨[(3,.c (.pb 0 1 0)),(20,.c (.rows false .mono)),(21,.c (.int .i64)),(22,.c (.int .i64))],[.box (.sv false .poly)]⟩ .u))) .u))) tK Tryz.f24 [(81,⟨_,sN⟩),(80,⟨_,ku⟩),(82,⟨_,dM⟩)] (M7 A sN.pre sN.fn ku.pre ku.fn dM.pre dM.fn):=fun _=>by kernel_rfl
theorem alO (A:Alg): @Ru aG.z X E A [] .u y8 Tryz.f189 [] (M8 A):=fun _=>by kernel_rfl
theorem alP (A:Alg) (jE:Ct A.ah y8): @Ru ⟨[20],[]⟩ X E A [(5,[(0,([3],[])),(1,([13],[])),(2,([5],[])),(3,([15],[])),(4,([5],[])),(5,([17],[])),(6,([18],[1,3])),(7,([16,19],[])),(8,([20],[1])),(9,([14,21],[])),(10,([3],[])),(11,([22,23],[]))])] (.seq .u (.seq .u (.seq (.seq .u (.block (.loop ⟨[(2,.c (.pb 0 1 0)),(3,.c (.pb 1 1 0)),(7,.c (.rows false .mono)),(8,.c (.int .i64)),(9,.c (.int .i64))],[.box (.agg [.nil]),.box (.agg [.own 2]),.rows true .mono]⟩ .u))) .u))) tL Tryz.f146 [(189,⟨_,jE⟩)] (M9 A jE.pre jE.fn):=fun _=>by kernel_rfl
theorem alQ (A:Alg) (fJ:Ct A.ah tL): @Ru aG.z X E A [] (.seq .u (.seq .u (.seq (.seq .u (.block (.loop ⟨[(3,.c (.own 0)),(6,.c (.rows false .poly)),(7,.c (.int .i64)),(8,.c (.int .i64))],[.rows true .poly]⟩ .u))) .u))) Iz Tryz.f145 [(146,⟨_,fJ⟩)] (Na A fJ.pre fJ.fn):=fun _=>by kernel_rfl
theorem alR (A:Alg) (fJ:Ct A.ah tL) (wK:Ct A.ah Iz): @Ru ⟨[42],[]⟩ X E A [(1,[(0,([1],[])),(1,([6],[])),(3,([1],[])),(4,([9],[])),(5,([1],[])),(6,([11],[])),(8,([1],[])),(9,([14],[])),(11,([1],[])),(12,([17],[])),(2,([7],[4,6,9,12])),(7,([12],[4,9,12])),(10,([15],[4,12])),(13,([8,10,13,16,18],[])),(14,([],[])),(15,([3,19],[]))]),(5,[(0,([3],[])),(1,([27],[])),(2,([5],[])),(3,([29],[])),(4,([5],[])),(5,([31],[])),(6,([5],[])),(7,([33],[])),(9,([5],[])),(10,([36],[])),(12,([5],[])),(13,([39],[])),(8,([34],[1,3,5,10,13])),(11,([37],[1,3,5,13])),(14,([40],[1,3,5])),(15,([30,32,35,38,41],[])),(16,([42],[1])),(17,([28,43],[])),(18,([3],[])),(19,([44,45],[]))])] (.seq .u (.seq .u (.seq (.seq .u (.block (.loop ⟨[(2,.c (.pb 0 6 0)),(3,.c (.pb 1 6 0)),(21,.c (.rows false .ev)),(22,.c (.int .i64)),(23,.c (.int .i64))],[.box (.agg [.nil,.nil,.int .i64,.nil,.nil,.int .i64]),.box (.agg [.own 2,.own 3,.int .i64,.own 4,.own 5,.int .i64]),.rows true .ev,.rows true .poly,.rows true .mono,.rows true .mono]⟩ .u))) .u))) IB Tryz.f68 [(146,⟨_,fJ⟩),(145,⟨_,wK⟩)] (Nb A fJ.pre fJ.fn wK.pre wK.fn):=fun _=>by kernel_rfl
theorem alS (A:Alg) (fK:Ct A.ah tK): @Ru aG.z X E A [] .u iR Tryz.f69 [(24,⟨_,fK⟩)] (Nc A fK.pre fK.fn):=fun _=>by kernel_rfl
theorem alT (A:Alg) (aC:Ct A.ah bZ): @Ru aG.z X E A [] .u iT Tryz.f78 [(121,⟨_,aC⟩)] (Ni A aC.pre aC.fn):=fun _=>by kernel_rfl
theorem alU (A:Alg) (bK:Ct A.ah iT): @Ru aG.z X E A [] .u y9 Tryz.f70 [(78,⟨_,bK⟩)] (Nj A bK.pre bK.fn):=fun _=>by kernel_rfl
theorem alV (A:Alg) (jF:Ct A.ah y7) (bB:Ct A.ah iD) (fK:Ct A.ah tK) (wL:Ct A.ah IB) (bL:Ct A.ah iR) (jG:Ct A.ah y9): @Ru aG.z X E A [] (.seq .u (.seq .u (.seq .u (.seq .u (.seq .u (.seq .u (.seq (.block (.seq .u (.cut ⟨[(4,.c (.pb 0 6 0)),(5,.c (.pb 1 6 0))],[.box (.agg [.nil,.nil,.int .i64,.nil,.nil,.int .i64]),.box (.agg [.own 2,.own 3,.int .i64,.own 4,.own 5,.int .i64]),.rows true .ev,.rows true .poly,.rows true .mono,.rows true .mono]⟩ (.cond .u (.seq .u (.cut ⟨[(4,.c (.pb 0 6 0)),(5,.c (.pb 1 6 0))],[.box (.agg [.nil,.nil,.int .i64,.nil,.nil,.int .i64]),.box (.agg [.own 2,.own 3,.int .i64,.own 4,.own 5,.int .i64]),.rows true .ev,.rows true .poly,.rows true .mono,.rows true .mono]⟩ (.cond .u (.seq .u (.cut ⟨[(4,.c (.pb 0 6 0)),(5,.c (.pb 1 6 0))],[.box (.agg [.nil,.nil,.int .i64,.nil,.nil,.int .i64]),.box (.agg [.own 2,.own 3,.int .i64,.own 4,.own 5,.int .i64]),.rows true .ev,.rows true .poly,.rows true .mono,.rows true .mono]⟩ (.cond (.seq .u (.seq .u (.seq .u (.cut ⟨[(4,.c (.pb 0 6 0)),(5,.c (.pb 1 6 0))],[.box (.agg [.nil,.nil,.int .i64,.nil,.nil,.int .i64]),.box (.agg [.own 2,.own 3,.int .i64,.nil,.nil,.int .i64]),.rows true .ev,.rows true .poly]⟩ (.cond .u .u))))) (.seq .u (.cut ⟨[(4,.c (.pb 0 6 0)),(5,.c (.pb 1 6 0))],[.box (.agg [.nil,.nil,.int .i64,.nil,.nil,.int .i64]),.box (.agg [.own 2,.own 3,.int .i64,.own 4,.own 5,.int .i64]),.rows true .ev,.rows true .poly,.rows true .mono,.rows true .mono]⟩ (.cond .u .u))))))))))))) .u))))))) IC Tryz.f16 [(22,⟨_,jF⟩),(67,⟨_,bB⟩),(24,⟨_,fK⟩),(68,⟨_,wL⟩),(69,⟨_,bL⟩),(70,⟨_,jG⟩)] (Nk A jF.pre jF.fn bB.pre bB.fn fK.pre fK.fn wL.pre wL.fn bL.pre bL.fn jG.pre jG.fn):=fun _=>by kernel_rfl
theorem alW (A:Alg) (bK:Ct A.ah iT): @Ru aG.z X E A [] .u IE Tryz.f20 [(78,⟨_,bK⟩)] (Np A bK.pre bK.fn):=fun _=>by kernel_rfl
theorem aiC (A:Alg) (aI:Ct A.ah dO) (dF:Ct A.ah lM): @Ru aG.z X E A [(9,[(0,([5],[])),(1,([33],[])),(2,([6],[])),(3,([5],[])),(4,([36],[])),(5,([6],[])),(6,([37,38],[])),(7,([39],[])),(8,([40],[])),(9,([41],[])),(10,([34,35],[])),(11,([43],[])),(12,([42,44],[]))]),(11,[(0,([5],[])),(1,([47],[])),(2,([6],[])),(3,([0],[])),(4,([6],[])),(5,([51],[])),(6,([50,52],[1])),(7,([48,49],[])),(8,([54],[])),(9,([53,55],[]))]),(13,[(0,([5],[])),(1,([58],[])),(2,([6],[])),(3,([0],[])),(4,([6],[])),(5,([62],[])),(6,([61,63],[1])),(7,([59,60],[])),(8,([65],[])),(9,([64,66],[]))]),(15,[(0,([5],[])),(1,([69],[])),(2,([6],[])),(3,([0],[])),(4,([5],[])),(5,([73],[])),(6,([74],[])),(7,([72,75],[1])),(8,([70,71],[])),(9,([77],[])),(10,([76,78],[]))]),(23,[(0,([5],[])),(1,([99],[])),(2,([6],[])),(3,([5],[])),(4,([102],[])),(5,([6],[])),(6,([104],[])),(7,([103,105],[])),(8,([106],[])),(9,([100,101],[])),(10,([107,108],[]))]),(26,[(0,([5],[])),(1,([117],[])),(2,([6],[])),(3,([0],[])),(4,([120],[1])),(5,([121],[])),(6,([118,119],[])),(7,([122,123],[]))])] (.seq .u (.seq .u (.seq .u (.seq .u (.seq (.seq .u (.block (.seq .u (.cut ⟨[(4,.c (.pb 1 7 0)),(5,.c (.pb 2 7 0))],[.box (.agg [.rows true .u8,.int .i64]),.box (.agg [.int .i64,.int .i64,.nil,.int .i64,.int .i64,.int .i64,.int .i64]),.box (.agg [.int .i64,.int .i64,.own 3,.int .i64,.int .i64,.int .i64,.int .i64]),.rows true .iop]⟩ (.cond .u (.seq .u (.cut ⟨[(4,.c (.pb 1 7 0)),(5,.c (.pb 2 7 0))],[.box (.agg [.rows true .u8,.int .i64]),.box (.agg [.int .i64,.int .i64,.nil,.int .i64,.int .i64,.int .i64,.int .i64]),.box (.agg [.int .i64,.int .i64,.own 3,.int .i64,.int .i64,.int .i64,.int .i64]),.rows true .iop]⟩ (.cond .u (.seq .u (.cut ⟨[(4,.c (.pb 1 7 0)),(5,.c (.pb 2 7 0))],[.box (.agg [.rows true .u8,.int .i64]),.box (.agg [.int .i64,.int .i64,.nil,.int .i64,.int .i64,.int .i64,.int .i64]),.box (.agg [.int .i64,.int .i64,.own 3,.int .i64,.int .i64,.int .i64,.int .i64]),.rows true .iop]⟩ (.cond .u (.seq .u (.cut ⟨[(4,.c (.pb 1 7 0)),(5,.c (.pb 2 7 0))],[.box (.agg [.rows true .u8,.int .i64]),.box (.agg [.int .i64,.int .i64,.nil,.int .i64,.int .i64,.int .i64,.int .i64]),.box (.agg [.int .i64,.int .i64,.own 3,.int .i64,.int .i64,.int .i64,.int .i64]),.rows true .iop]⟩ (.cond .u (.seq .u (.cut ⟨[(4,.c (.pb 1 7 0)),(5,.c (.pb 2 7 0))],[.box (.agg [.rows true .u8,.int .i64]),.box (.agg [.int .i64,.int .i64,.nil,.int .i64,.int .i64,.int .i64,.int .i64]),.box (.agg [.int .i64,.int .i64,.own 3,.int .i64,.int .i64,.int .i64,.int .i64]),.rows true .iop]⟩ (.cond .u (.seq .u (.cut ⟨[(4,.c (.pb 1 7 0)),(5,.c (.pb 2 7 0))],[.box (.agg [.rows true .u8,.int .i64]),.box (.agg [.int .i64,.int .i64,.nil,.int .i64,.int .i64,.int .i64,.int .i64]),.box (.agg [.int .i64,.int .i64,.own 3,.int .i64,.int .i64,.int .i64,.int .i64]),.rows true .iop]⟩ (.cond .u (.seq .u (.cut ⟨[(4,.c (.pb 1 7 0)),(5,.c (.pb 2 7 0))],[.box (.agg [.rows true .u8,.int .i64]),.box (.agg [.int .i64,.int .i64,.nil,.int .i64,.int .i64,.int .i64,.int .i64]),.box (.agg [.int .i64,.int .i64,.own 3,.int .i64,.int .i64,.int .i64,.int .i64]),.rows true .iop]⟩ (.cond (.seq .u (.cut ⟨[(4,.c (.pb 1 7 0)),(5,.c (.pb 2 7 0))],[.box (.agg [.rows true .u8,.int .i64]),.box (.agg [.int .i64,.int .i64,.nil,.int .i64,.int .i64,.int .i64,.int .i64]),.box (.agg [.int .i64,.int .i64,.own 3,.int .i64,.int .i64,.int .i64,.int .i64]),.rows true .iop]⟩ (.cond .u .u))) (.seq .u (.cut ⟨[(4,.c (.pb 1 7 0)),(5,.c (.pb 2 7 0))],[.box (.agg [.rows true .u8,.int .i64]),.box (.agg [.int .i64,.int .i64,.nil,.int .i64,.int .i64,.int .i64,.int .i64]),.box (.agg [.int .i64,.int .i64,.own 3,.int .i64,.int .i64,.int .i64,.int .i64]),.rows true .iop]⟩ (.cond .u .u)))))))))))))))))))))))))) .u))))) Bg Tryz.f151 [(61,⟨_,aI⟩),(113,⟨_,dF⟩)] (BI A aI.pre aI.fn dF.pre dF.fn):=fun _=>by kernel_rfl
theorem aiD (A:Alg) (pR:Ct A.ah Am) (aI:Ct A.ah dO) (pU:Ct A.ah Bg) (pV:Ct A.ah A9): @Ru aG.z X E A [(15,[(0,([5],[])),(1,([54],[])),(2,([],[])),(3,([0],[])),(7,([5],[])),(8,([61],[])),(9,([62],[])),(4,([57],[1,8])),(5,([56,58],[])),(6,([59],[])),(10,([60,63],[])),(11,([64],[])),(12,([55,65],[])),(13,([5],[])),(14,([66,67],[]))])] (.seq .u (.seq .u (.seq (.seq .u (.cut ⟨[(4,.c (.pb 1 7 0)),(5,.c (.pb 2 7 0))],[.box (.agg [.rows true .u8,.int .i64]),.box (.agg [.int .i64,.int .i64,.nil,.int .i64,.int .i64,.int .i64,.int .i64]),.box (.agg [.int .i64,.int .i64,.own 3,.int .i64,.int .i64,.int .i64,.int .i64]),.rows true .iop]⟩ (.cond (.seq .u (.block (.seq .u (.cut ⟨[(4,.c (.pb 1 7 0)),(5,.c (.pb 2 7 0))],[.box (.agg [.rows true .u8,.int .i64]),.box (.agg [.int .i64,.int .i64,.nil,.int .i64,.int .i64,.int .i64,.int .i64]),.box (.agg [.int .i64,.int .i64,.own 3,.int .i64,.int .i64,.int .i64,.int .i64]),.rows true .iop]⟩ (.cond .u (.seq .u (.cut ⟨[(4,.c (.pb 1 7 0)),(5,.c (.pb 2 7 0))],[.box (.agg [.rows true .u8,.int .i64]),.box (.agg [.int .i64,.int .i64,.nil,.int .i64,.int .i64,.int .i64,.int .i64]),.box (.agg [.int .i64,.int .i64,.own 3,.int .i64,.int .i64,.int .i64,.int .i64]),.rows true .iop]⟩ (.cond .u (.seq .u (.cut ⟨[(4,.c (.pb 1 7 0)),(5,.c (.pb 2 7 0))],[.box (.agg [.rows true .u8,.int .i64]),.box (.agg [.int .i64,.int .i64,.nil,.int .i64,.int .i64,.int .i64,.int .i64]),.box (.agg [.int .i64,.int .i64,.own 3,.int .i64,.int .i64,.int .i64,.int .i64]),.rows true .iop]⟩ (.cond (.block (.loop ⟨[(4,.c (.pb 1 7 0)),(5,.c (.pb 2 7 0))],[.box (.agg [.rows true .u8,.int .i64]),.box (.agg [.int .i64,.int .i64,.nil,.int .i64,.int .i64,.int .i64,.int .i64]),.box (.agg [.int .i64,.int .i64,.own 3,.int .i64,.int .i64,.int .i64,.int .i64]),.rows true .iop]⟩ .u)) (.seq .u (.cut ⟨[(4,.c (.pb 1 7 0)),(5,.c (.pb 2 7 0))],[.box (.agg [.rows true .u8,.int .i64]),.box (.agg [.int .i64,.int .i64,.nil,.int .i64,.int .i64,.int .i64,.int .i64]),.box (.agg [.int .i64,.int .i64,.own 3,.int .i64,.int .i64,.int .i64,.int .i64]),.rows true .iop]⟩ (.cond .u .u)))))))))))))) .u))) .u))) Bh Tryz.f98 [(158,⟨_,pR⟩),(61,⟨_,aI⟩),(151,⟨_,pU⟩),(66,⟨_,pV⟩)] (Ga A pR.pre pR.fn aI.pre aI.fn pU.pre pU.fn pV.pre pV.fn):=fun _=>by kernel_rfl
end Go.TX.Seat
namespace Go.TX.Seat
open Go Go.AE Go.TX Go.TX.F Go.Proofs
set_option maxRecDepth 100000
theorem alX (A:Alg) (aC:Ct A.ah bZ): @Ru aG.z X E A [] .u za Tryz.f164 [(121,⟨_,aC⟩)] (Nq A aC.pre aC.fn):=fun _=>by kernel_rfl
theorem alY (A:Alg) (aC:Ct A.ah bZ): @Ru aG.z X E A [] .u ze Tryz.f165 [(121,⟨_,aC⟩)] (Nr A aC.pre aC.fn):=fun _=>by kernel_rfl
theorem alZ (A:Alg) (aC:Ct A.ah bZ) (jH:Ct A.ah za) (jD:Ct A.ah yZ) (bB:Ct A.ah iD) (jI:Ct A.ah ze): @Ru aG.z X E A [] .u zf Tryz.f108 [(121,⟨_,aC⟩),(164,⟨_,jH⟩),(142,⟨_,jD⟩),(67,⟨_,bB⟩),(165,⟨_,jI⟩)] (Ns A aC.pre aC.fn jH.pre jH.fn jD.pre jD.fn bB.pre bB.fn jI.pre jI.fn):=fun _=>by kernel_rfl
theorem al0 (A:Alg) (bL:Ct A.ah iR): @Ru aG.z X E A [] .u IG Tryz.f168 [(69,⟨_,bL⟩)] (Nt A bL.pre bL.fn):=fun _=>by kernel_rfl
theorem al1 (A:Alg) (wM:Ct A.ah IG): @Ru aG.z X E A [] .u II Tryz.f167 [(168,⟨_,wM⟩)] (Nu A wM.pre wM.fn):=fun _=>by kernel_rfl
theorem aiE (A:Alg) (wN:Ct A.ah II): @Ru aG.z X E A [] (.seq .u (.seq (.seq .u (.block (.loop ⟨[(0,.c (.rows false .atom)),(1,.c (.fn 167 [(0,4)])),(7,.c (.int .i64)),(8,.c (.int .i64))],[.box (.sv false .atom)]⟩ .u))) .u)) Bj Tryz.f166 [(167,⟨_,wN⟩)] (Gb A wN.pre wN.fn):=fun _=>by kernel_rfl
theorem al2 (A:Alg) (pW:Ct A.ah Bj): @Ru aG.z X E A [] .u zh Tryz.f109 [(166,⟨_,pW⟩)] (Nv A pW.pre pW.fn):=fun _=>by kernel_rfl
theorem al3 (A:Alg) (jJ:Ct A.ah zf) (jK:Ct A.ah zh): @Ru aG.z X E A [] (.seq .u (.seq (.seq .u (.block (.loop ⟨[(1,.c (.pb 0 1 0)),(6,.c (.rows false .atom)),(7,.c (.int .i64)),(8,.c (.int .i64))],[.box (.sv false .tab)]⟩ .u))) .u)) IJ Tryz.f38 [(108,⟨_,jJ⟩),(109,⟨_,jK⟩)] (Nw A jJ.pre jJ.fn jK.pre jK.fn):=fun _=>by kernel_rfl
theorem al4 (A:Alg) (aC:Ct A.ah bZ): @Ru aG.z X E A [] .u zi Tryz.f100 [(121,⟨_,aC⟩)] (Ny A aC.pre aC.fn):=fun _=>by kernel_rfl
theorem al5 (A:Alg) (aC:Ct A.ah bZ): @Ru aG.z X E A [] .u IK Tryz.f199 [(121,⟨_,aC⟩)] (Nz A aC.pre aC.fn):=fun _=>by kernel_rfl
theorem al6 (A:Alg) (wO:Ct A.ah IK) (aC:Ct A.ah bZ): @Ru aG.z X E A [] .u zk Tryz.f172 [(199,⟨_,wO⟩),(121,⟨_,aC⟩)] (NA A wO.pre wO.fn aC.pre aC.fn):=fun _=>by kernel_rfl
theorem al7 (A:Alg) (jL:Ct A.ah zk) (jM:Ct A.ah zi) (bK:Ct A.ah iT) (aC:Ct A.ah bZ) (jH:Ct A.ah za) (jI:Ct A.ah ze): @Ru ⟨[],[27,40]⟩ X E A [(5,[(0,([],[])),(1,([5],[])),(2,([28],[])),(5,([5],[])),(6,([31],[])),(9,([5],[])),(10,([34],[])),(13,([5],[])),(14,([37],[])),(18,([5],[])),(19,([41],[])),(3,([29],[6,10,14,19])),(4,([27,30],[])),(7,([32],[10,14,19])),(8,([27,33],[])),(11,([35],[14,19])),(12,([27,36],[])),(15,([38],[19])),(16,([27,39],[])),(17,([27],[])),(20,([30,33,36,39,40,42],[])),(21,([43],[]))])] .u IL Tryz.f122 [(172,⟨_,jL⟩),(100,⟨_,jM⟩),(78,⟨_,bK⟩),(121,⟨_,aC⟩),(164,⟨_,jH⟩),(165,⟨_,jI⟩)] (NC A jL.pre jL.fn jM.pre jM.fn bK.pre bK.fn aC.pre aC.fn jH.pre jH.fn jI.pre jI.fn):=fun _=>by kernel_rfl
theorem al8 (A:Alg): @Ru aG.z X E A [(1,[(0,([1],[])),(1,([5],[])),(2,([6],[])),(3,([1],[])),(4,([8],[])),(5,([9],[])),(6,([1],[])),(7,([11],[])),(8,([12],[])),(9,([7],[])),(10,([10],[])),(11,([13],[]))])] .u zl Tryz.f106 [] (NH A):=fun _=>by kernel_rfl
theorem al9 (A:Alg) (jN:Ct A.ah zl) (jL:Ct A.ah zk) (bK:Ct A.ah iT) (aC:Ct A.ah bZ): @Ru aG.z X E A [] .u IQ Tryz.f123 [(106,⟨_,jN⟩),(172,⟨_,jL⟩),(78,⟨_,bK⟩),(121,⟨_,aC⟩)] (NI A jN.pre jN.fn jL.pre jL.fn bK.pre bK.fn aC.pre aC.fn):=fun _=>by kernel_rfl
theorem ama (A:Alg) (wP:Ct A.ah IQ) (wQ:Ct A.ah IL) (aC:Ct A.ah bZ): @Ru aG.z X E A [] (.seq .u (.seq .u (.seq (.seq .u (.block (.loop ⟨[(1,.c (.pb 0 7 0)),(25,.c (.int .i64)),(26,.c (.int .i64))],[.box (.sv false .blk)]⟩ .u))) .u))) tN Tryz.f51 [(123,⟨_,wP⟩),(122,⟨_,wQ⟩),(121,⟨_,aC⟩)] (NJ A wP.pre wP.fn wQ.pre wQ.fn aC.pre aC.fn):=fun _=>by kernel_rfl
theorem amb (A:Alg): @Ru aG.z X E A [] .u IU Tryz.f198 [] (NK A):=fun _=>by kernel_rfl
theorem amc (A:Alg) (jJ:Ct A.ah zf) (jK:Ct A.ah zh) (wR:Ct A.ah IU): @Ru aG.z X E A [(6,[(0,([2],[])),(1,([28],[])),(3,([3],[])),(4,([31],[])),(2,([29],[3])),(5,([30,32],[])),(6,([33],[])),(7,([],[])),(8,([7,34],[]))]),(7,[(0,([7],[])),(1,([2],[])),(2,([36],[])),(3,([37],[])),(4,([4,35],[2])),(5,([38],[]))])] .u zm Tryz.f162 [(108,⟨_,jJ⟩),(109,⟨_,jK⟩),(198,⟨_,wR⟩)] (NP A jJ.pre jJ.fn jK.pre jK.fn wR.pre wR.fn):=fun _=>by kernel_rfl
theorem amd (A:Alg) (aC:Ct A.ah bZ): @Ru aG.z X E A [] .u zn Tryz.f163 [(121,⟨_,aC⟩)] (NQ A aC.pre aC.fn):=fun _=>by kernel_rfl
theorem ame (A:Alg) (jO:Ct A.ah zn) (jP:Ct A.ah zm): @Ru aG.z X E A [] .u zo Tryz.f105 [(163,⟨_,jO⟩),(162,⟨_,jP⟩)] (NR A jO.pre jO.fn jP.pre jP.fn):=fun _=>by kernel_rfl
theorem amf (A:Alg) (jQ:Ct A.ah zo): @Ru aG.z X E A [] (.seq .u (.seq .u (.seq (.seq .u (.block (.loop ⟨[(0,.c (.pb 0 2 0)),(3,.c (.own 1)),(5,.c (.int .i64))],[.box (.agg [.rows true .atom,.bool]),.rows true .poly]⟩ .u))) .u))) zq Tryz.f99 [(105,⟨_,jQ⟩)] (NS A jQ.pre jQ.fn):=fun _=>by kernel_rfl
theorem amg (A:Alg) (aC:Ct A.ah bZ): @Ru aG.z X E A [] .u IV Tryz.f101 [(121,⟨_,aC⟩)] (NT A aC.pre aC.fn):=fun _=>by kernel_rfl
theorem amh (A:Alg): @Ru aG.z X E A [] .u IW Tryz.f102 [] (NU A):=fun _=>by kernel_rfl
theorem ami (A:Alg) (aC:Ct A.ah bZ): @Ru aG.z X E A [] .u tO Tryz.f103 [(121,⟨_,aC⟩)] (NV A aC.pre aC.fn):=fun _=>by kernel_rfl
theorem amj (A:Alg): @Ru aG.z X E A [] .u tQ Tryz.f169 [] (NW A):=fun _=>by kernel_rfl
theorem amk (A:Alg) (bK:Ct A.ah iT) (fM:Ct A.ah tQ): @Ru aG.z X E A [] .u zu Tryz.f112 [(78,⟨_,bK⟩),(169,⟨_,fM⟩)] (NY A bK.pre bK.fn fM.pre fM.fn):=fun _=>by kernel_rfl
theorem aml (A:Alg) (dM:Ct A.ah mW): @Ru aG.z X E A [] .u zw Tryz.f224 [(82,⟨_,dM⟩)] (NZ A dM.pre dM.fn):=fun _=>by kernel_rfl
theorem aiF (A:Alg) (jR:Ct A.ah zw): @Ru aG.z X E A [(4,[(0,([9],[])),(1,([1],[])),(2,([18,19],[])),(3,([20],[])),(4,([3,21],[])),(5,([0,21],[])),(6,([9,21],[])),(7,([21,23,24],[])),(8,([21,25],[])),(9,([0,21],[])),(10,([9,21],[])),(11,([21,28],[])),(12,([21,27,29],[])),(13,([21,30],[])),(14,([21,22,26,31],[])),(15,([21,32],[])),(16,([21,33],[]))]),(6,[(0,([0],[])),(1,([9],[])),(2,([0],[])),(3,([9],[])),(4,([40],[])),(5,([0],[])),(6,([9],[])),(7,([43],[])),(8,([42,44],[])),(9,([45],[])),(10,([0],[])),(11,([9],[])),(12,([47,48],[])),(13,([49],[])),(14,([37,38],[])),(15,([46,51],[])),(16,([39,41],[])),(17,([50,52],[]))])] (.seq .u (.block (.loop ⟨[(0,.c (.own 0)),(1,.c (.int .i64)),(2,.c (.int .i64)),(3,.c (.fn 224 [])),(8,.c (.int .i64))],[.rows false .mono]⟩ (.seq .u (.seq (.block (.seq .u (.block (.loop ⟨[(0,.c (.own 0)),(1,.c (.int .i64)),(2,.c (.int .i64)),(3,.c (.fn 224 [])),(8,.c (.int .i64)),(9,.c (.int .i64))],[.rows false .mono]⟩ .u)))) .u))))) Bn Tryz.f240 [(224,⟨_,jR⟩)] (Gf A jR.pre jR.fn):=fun _=>by kernel_rfl
theorem aiG (A:Alg): @Ru aG.z X E A [(3,[(0,([0],[])),(1,([1],[])),(2,([10],[])),(3,([17,18],[])),(4,([0],[])),(5,([2],[])),(6,([10],[])),(7,([21,22],[])),(8,([0],[])),(9,([2],[])),(10,([10],[])),(11,([25,26],[])),(12,([24,27],[])),(13,([28],[])),(14,([0],[])),(15,([1],[])),(16,([10],[])),(17,([31,32],[])),(18,([30,33],[])),(19,([34],[])),(20,([16,19],[])),(21,([29,36],[])),(22,([20,23],[])),(23,([35,37],[]))])] (.seq .u (.block (.loop ⟨[(0,.c (.own 0)),(1,.c (.int .i64)),(2,.c (.int .i64)),(3,.c (.int .i64)),(10,.c (.int .i64))],[.rows false .mono]⟩ .u))) Bo Tryz.f249 [] (Gg A):=fun _=>by kernel_rfl
theorem aiH (A:Alg) (pX:Ct A.ah Bo): @Ru aG.z X E A [] (.seq .u (.seq .u (.seq (.block (.loop ⟨[(0,.c (.own 0)),(2,.c (.int .i64)),(4,.c (.fn 224 [])),(10,.c (.int .i64)),(11,.c (.int .i64))],[.rows false .mono]⟩ (.seq .u (.block (.seq .u (.cut ⟨[(0,.c (.own 0)),(2,.c (.int .i64)),(4,.c (.fn 224 [])),(10,.c (.int .i64)),(11,.c (.int .i64))],[.rows false .mono]⟩ (.cond .u .u))))))) .u))) Bq Tryz.f247 [(249,⟨_,pX⟩)] (Gh A pX.pre pX.fn):=fun _=>by kernel_rfl
theorem aiI (A:Alg) (jR:Ct A.ah zw) (pY:Ct A.ah Bq) (jS:Ct A.ah mX): @Ru aG.z X E A [(5,[(0,([4],[])),(1,([0],[])),(2,([12],[])),(3,([41,42],[])),(4,([43],[])),(5,([0],[])),(6,([1],[])),(7,([45,46],[])),(8,([47],[])),(9,([40,44,48],[])),(10,([49],[]))]),(11,[(0,([0],[])),(1,([13],[])),(2,([0],[])),(3,([13],[])),(4,([64],[])),(5,([0],[])),(6,([13],[])),(7,([67],[])),(8,([66,68],[])),(9,([69],[])),(10,([0],[])),(11,([13],[])),(12,([71,72],[])),(13,([73],[])),(14,([61,62],[])),(15,([70,75],[])),(16,([63,65],[])),(17,([74,76],[]))]),(17,[(0,([4],[])),(1,([0],[])),(2,([2],[])),(3,([93,94],[])),(4,([95],[])),(5,([0],[])),(6,([16],[])),(7,([97,98],[])),(8,([99],[])),(9,([92,96,100],[])),(10,([101],[])),(11,([102],[]))]),(23,[(0,([0],[])),(1,([17],[])),(2,([0],[])),(3,([17],[])),(4,([116],[])),(5,([0],[])),(6,([17],[])),(7,([119],[])),(8,([118,120],[])),(9,([121],[])),(10,([0],[])),(11,([17],[])),(12,([123,124],[])),(13,([125],[])),(14,([113,114],[])),(15,([122,127],[])),(16,([115,117],[])),(17,([126,128],[]))]),(35,[(0,([4],[])),(1,([0],[])),(2,([22],[])),(3,([23],[])),(4,([160,161],[])),(5,([159,162],[])),(6,([163],[])),(7,([0],[])),(8,([23],[])),(9,([165,166],[])),(10,([167],[])),(11,([158,164,168],[])),(12,([169],[])),(13,([170],[]))])] (.seq (.seq .u (.cond (.seq .u (.seq .u (.seq (.block (.loop ⟨[(0,.c (.own 0)),(1,.c (.int .i64)),(4,.c (.fn 224 [])),(10,.c (.int .i64)),(11,.c (.int .i64))],[.rows false .mono]⟩ (.seq .u (.block (.seq .u (.seq .u (.cut ⟨[(0,.c (.own 0)),(1,.c (.int .i64)),(4,.c (.fn 224 [])),(10,.c (.int .i64)),(11,.c (.int .i64))],[.rows false .mono]⟩ (.cond .u .u)))))))) (.seq (.seq .u (.block (.loop ⟨[(0,.c (.own 0)),(10,.c (.int .i64)),(13,.c (.int .i64))],[.rows false .mono]⟩ .u))) .u)))) .u)) (.seq (.seq .u (.cond (.seq .u (.seq .u (.seq (.block (.loop ⟨[(0,.c (.own 0)),(2,.c (.int .i64)),(4,.c (.fn 224 [])),(14,.c (.int .i64)),(15,.c (.int .i64))],[.rows false .mono]⟩ (.seq .u (.block (.seq .u (.seq .u (.cut ⟨[(0,.c (.own 0)),(2,.c (.int .i64)),(4,.c (.fn 224 [])),(14,.c (.int .i64)),(15,.c (.int .i64))],[.rows false .mono]⟩ (.cond .u .u)))))))) (.seq (.seq .u (.block (.loop ⟨[(0,.c (.own 0)),(14,.c (.int .i64)),(17,.c (.int .i64))],[.rows false .mono]⟩ .u))) .u)))) .u)) (.seq .u (.seq .u (.seq .u (.seq (.seq .u (.cut ⟨[(0,.c (.own 0)),(1,.c (.int .i64)),(2,.c (.int .i64)),(3,.c (.int .i64)),(4,.c (.fn 224 [])),(18,.c (.int .i64)),(19,.c (.int .i64)),(20,.c (.int .i64)),(21,.c (.int .i64))],[.rows false .mono]⟩ (.cond .u .u))) (.seq .u (.seq (.block (.loop ⟨[(0,.c (.own 0)),(1,.c (.int .i64)),(2,.c (.int .i64)),(3,.c (.int .i64)),(4,.c (.fn 224 [])),(18,.c (.int .i64)),(19,.c (.int .i64)),(20,.c (.int .i64)),(21,.c (.int .i64)),(22,.c (.int .i64))],[.rows false .mono]⟩ (.seq .u (.block (.seq .u (.seq .u (.cut ⟨[(0,.c (.own 0)),(1,.c (.int .i64)),(2,.c (.int .i64)),(3,.c (.int .i64)),(4,.c (.fn 224 [])),(18,.c (.int .i64)),(19,.c (.int .i64)),(20,.c (.int .i64)),(21,.c (.int .i64)),(22,.c (.int .i64))],[.rows false .mono]⟩ (.cond .u .u)))))))) (.seq .u (.seq (.seq .u (.cut ⟨[(0,.c (.own 0)),(1,.c (.int .i64)),(3,.c (.int .i64)),(4,.c (.fn 224 [])),(18,.c (.int .i64)),(20,.c (.int .i64)),(24,.c (.int .i64))],[.rows false .mono]⟩ (.cond .u .u))) (.seq (.seq .u (.cut ⟨[(0,.c (.own 0)),(3,.c (.int .i64)),(4,.c (.fn 224 [])),(18,.c (.int .i64)),(24,.c (.int .i64))],[.rows false .mono]⟩ (.cond .u .u))) (.seq .u (.cut ⟨[],[.rows false .mono]⟩ (.cond .u .u)))))))))))))) mX Tryz.f241 [(224,⟨_,jR⟩),(247,⟨_,pY⟩),(241,⟨_,jS⟩)] (Gi A jR.pre jR.fn pY.pre pY.fn jS.pre jS.fn):=fun _=>by kernel_rfl
theorem aiJ (A:Alg) (qb:Ct A.ah Bn) (jS:Ct A.ah mX): @Ru aG.z X E A [] (.seq .u (.seq .u (.seq (.block (.loop ⟨[(0,.c (.own 0)),(1,.c (.int .i64)),(2,.c (.fn 224 [])),(6,.c (.int .i64)),(7,.c (.int .i64)),(8,.c (.int .i64))],[.rows false .mono]⟩ .u)) (.seq .u (.block (.loop ⟨[(0,.c (.own 0)),(1,.c (.int .i64)),(2,.c (.fn 224 [])),(6,.c (.int .i64))],[.rows false .mono]⟩ (.seq .u (.block (.seq .u (.seq (.block (.loop ⟨[(0,.c (.own 0)),(1,.c (.int .i64)),(2,.c (.fn 224 [])),(6,.c (.int .i64)),(7,.c (.int .i64)),(8,.c (.int .i64))],[.rows false .mono]⟩ .u)) (.seq (.seq .u (.seq .u (.cut ⟨[(0,.c (.own 0)),(1,.c (.int .i64)),(2,.c (.fn 224 [])),(6,.c (.int .i64))],[.rows false .mono]⟩ (.cond .u .u)))) .u))))))))))) Br Tryz.f229 [(240,⟨_,qb⟩),(241,⟨_,jS⟩)] (Gn A qb.pre qb.fn jS.pre jS.fn):=fun _=>by kernel_rfl
theorem aiK (A:Alg) (qc:Ct A.ah Br): @Ru aG.z X E A [] .u Bu Tryz.f223 [(229,⟨_,qc⟩)] (Gp A qc.pre qc.fn):=fun _=>by kernel_rfl
theorem amm (A:Alg) (dM:Ct A.ah mW) (bB:Ct A.ah iD) (fM:Ct A.ah tQ) (jE:Ct A.ah y8) (qd:Ct A.ah Bu): @Ru ⟨[51],[]⟩ X E A [(5,[(0,([0],[])),(1,([5],[])),(2,([14,15],[])),(3,([16],[])),(5,([],[])),(4,([],[])),(6,([7,17],[]))]),(6,[(0,([5],[])),(1,([0],[])),(2,([19],[])),(3,([18,20],[])),(4,([21],[])),(5,([7,22],[])),(6,([22,23],[])),(7,([0,22],[])),(8,([5,22],[])),(9,([22,25,26],[])),(10,([22,27],[])),(11,([22,28],[])),(12,([22,24,29],[])),(13,([22,30],[])),(14,([22,31],[]))]),(10,[(0,([4],[])),(1,([45],[])),(2,([6],[])),(3,([7],[])),(4,([48],[])),(5,([49],[1])),(6,([47,50],[])),(7,([51],[1])),(8,([46,52],[])),(9,([4],[])),(10,([53,54],[]))])] (.seq .u (.seq .u (.seq .u (.seq (.seq .u (.block (.loop ⟨[(0,.c (.own 0)),(2,.c (.pb 1 1 0)),(4,.c (.pb 2 1 0)),(5,.c (.int .i64))],[.rows false .mono,.box (.agg [.nil]),.box (.agg [.own 3]),.rows true .mono]⟩ (.seq .u (.block (.seq .u (.seq (.block (.loop ⟨[(0,.c (.own 0)),(2,.c (.pb 1 1 0)),(4,.c (.pb 2 1 0)),(5,.c (.int .i64)),(6,.c (.int .i64)),(7,.c (.pb 3 2 0))],[.rows false .mono,.box (.agg [.nil]),.box (.agg [.own 4]),.box (.sv false .mono),.rows true .mono]⟩ .u)) (.seq .u (.cut ⟨[(0,.c (.own 0)),(2,.c (.pb 1 1 0)),(4,.c (.pb 2 1 0)),(5,.c (.int .i64))],[.rows false .mono,.box (.agg [.nil]),.box (.agg [.own 3]),.rows true .mono]⟩ (.cond .u .u)))))))))) .u)))) zy Tryz.f217 [(82,⟨_,dM⟩),(67,⟨_,bB⟩),(169,⟨_,fM⟩),(189,⟨_,jE⟩),(223,⟨_,qd⟩)] (N9 A dM.pre dM.fn bB.pre bB.fn fM.pre fM.fn jE.pre jE.fn qd.pre qd.fn):=fun _=>by kernel_rfl
theorem aiL (A:Alg): @Ru aG.z X E A [] (.seq .u (.seq .u (.seq (.seq .u (.seq .u (.cut ⟨[(0,.c (.own 0))],[.rows true .mono]⟩ (.cond .u .u)))) .u))) Bv Tryz.f225 [] (Gq A):=fun _=>by kernel_rfl
theorem amn (A:Alg) (qg:Ct A.ah Bv): @Ru aG.z X E A [] (.seq .u (.seq .u (.seq (.seq .u (.block (.loop ⟨[(0,.c (.rows false .poly)),(3,.c (.int .i64)),(9,.c (.rows false .poly)),(10,.c (.int .i64)),(11,.c (.int .i64))],[]⟩ .u))) (.seq .u (.seq (.seq .u (.block (.loop ⟨[(6,.c (.own 0)),(25,.c (.rows false .poly)),(26,.c (.int .i64)),(27,.c (.int .i64))],[.rows false .mono]⟩ .u))) .u))))) IX Tryz.f218 [(225,⟨_,qg⟩)] (Oa A qg.pre qg.fn):=fun _=>by kernel_rfl
theorem amo (A:Alg) (bB:Ct A.ah iD) (jT:Ct A.ah zy) (wS:Ct A.ah IX): @Ru aG.z X E A [] .u IY Tryz.f195 [(67,⟨_,bB⟩),(217,⟨_,jT⟩),(218,⟨_,wS⟩)] (Ob A bB.pre bB.fn jT.pre jT.fn wS.pre wS.fn):=fun _=>by kernel_rfl
theorem aiM (A:Alg): @Ru aG.z X E A [] (.seq .u (.seq .u (.seq (.seq .u (.seq .u (.cut ⟨[(0,.c (.own 0))],[.rows true .i64]⟩ (.cond .u .u)))) .u))) Bw Tryz.f226 [] (Gr A):=fun _=>by kernel_rfl
theorem amq (A:Alg) (qh:Ct A.ah Bw): @Ru aG.z X E A [] (.seq .u (.seq .u (.seq (.seq .u (.block (.loop ⟨[(0,.c (.rows false .ints)),(3,.c (.int .i64)),(9,.c (.rows false .ints)),(10,.c (.int .i64)),(11,.c (.int .i64))],[]⟩ .u))) (.seq .u (.seq (.seq .u (.block (.loop ⟨[(6,.c (.own 0)),(25,.c (.rows false .ints)),(26,.c (.int .i64)),(27,.c (.int .i64))],[.rows true .i64]⟩ .u))) .u))))) IZ Tryz.f219 [(226,⟨_,qh⟩)] (Oc A qh.pre qh.fn):=fun _=>by kernel_rfl
theorem aiN (A:Alg) (kC:Ct A.ah CP): @Ru aG.z X E A [(4,[(0,([7],[])),(1,([1],[])),(2,([16,17],[])),(3,([18],[])),(4,([0,19],[])),(5,([7,19],[])),(6,([19,20,21],[])),(7,([19,22],[])),(8,([0,19],[])),(9,([7,19],[])),(10,([19,25],[])),(11,([19,24,26],[])),(12,([19,27],[])),(13,([19,23,28],[])),(14,([19,29],[]))]),(6,[(0,([0],[])),(1,([7],[])),(2,([0],[])),(3,([7],[])),(4,([36],[])),(5,([0],[])),(6,([7],[])),(7,([39],[])),(8,([38,40],[])),(9,([41],[])),(10,([0],[])),(11,([7],[])),(12,([43,44],[])),(13,([45],[])),(14,([33,34],[])),(15,([42,47],[])),(16,([35,37],[])),(17,([46,48],[]))])] (.seq .u (.block (.loop ⟨[(0,.c (.own 0)),(1,.c (.int .i64)),(2,.c (.int .i64)),(6,.c (.int .i64))],[.rows true .i64]⟩ (.seq .u (.seq (.block (.seq .u (.block (.loop ⟨[(0,.c (.own 0)),(1,.c (.int .i64)),(2,.c (.int .i64)),(6,.c (.int .i64)),(7,.c (.int .i64))],[.rows true .i64]⟩ .u)))) .u))))) Bz Tryz.f230 [(185,⟨_,kC⟩)] (Gs A kC.pre kC.fn):=fun _=>by kernel_rfl
theorem aiO (A:Alg) (kC:Ct A.ah CP) (ql:Ct A.ah Bz) (qm:Ct A.ah EB) (qo:Ct A.ah EC) (qp:Ct A.ah ED) (qw:Ct A.ah EF) (qx:Ct A.ah EG) (qy:Ct A.ah EH) (qz:Ct A.ah EI) (jU:Ct A.ah mY): @Ru aG.z X E A [(17,[(0,([1],[])),(1,([73],[])),(2,([74],[])),(3,([0,75],[])),(4,([1,75],[])),(5,([75,77],[])),(6,([75,76,78],[])),(7,([75,79],[])),(8,([0,75],[])),(9,([11,75],[])),(10,([75,81,82],[])),(11,([75,83],[])),(12,([75,80,84],[])),(13,([75,85],[])),(14,([75,86],[]))])] (.seq .u (.seq .u (.block (.loop ⟨[(0,.c (.own 0)),(1,.c (.int .i64)),(2,.c (.int .i64)),(3,.c (.int .i64)),(8,.c (.bool)),(9,.c (.bool))],[.rows true .i64]⟩ (.cut ⟨[(0,.c (.own 0)),(1,.c (.int .i64)),(2,.c (.int .i64)),(3,.c (.int .i64)),(8,.c (.bool)),(9,.c (.bool))],[.rows true .i64]⟩ (.block (.seq .u (.seq .u (.seq .u (.seq (.seq .u (.cut ⟨[(0,.c (.own 0)),(1,.c (.int .i64)),(2,.c (.int .i64)),(3,.c (.int .i64)),(8,.c (.bool)),(9,.c (.bool)),(10,.c (.int .i64))],[.rows true .i64]⟩ (.cond .u .u))) (.seq .u (.seq (.seq .u (.cut ⟨[(0,.c (.own 0)),(1,.c (.int .i64)),(2,.c (.int .i64)),(3,.c (.int .i64)),(8,.c (.bool)),(9,.c (.bool)),(10,.c (.int .i64)),(11,.c (.int .i64)),(12,.c (.int .i64))],[.rows true .i64]⟩ (.cond .u .u))) (.seq (.seq .u (.cut ⟨[(0,.c (.own 0)),(1,.c (.int .i64)),(2,.c (.int .i64)),(3,.c (.int .i64)),(8,.c (.bool)),(9,.c (.bool)),(10,.c (.int .i64)),(11,.c (.int .i64))],[.rows true .i64]⟩ (.cond .u .u))) (.seq .u (.seq .u (.seq .u (.seq .u (.seq .u (.seq .u (.cut ⟨[(0,.c (.own 0)),(1,.c (.int .i64)),(2,.c (.int .i64)),(3,.c (.int .i64)),(8,.c (.bool)),(9,.c (.bool))],[.rows true .i64]⟩ (.cond .u .u))))))))))))))))))))) mY Tryz.f227 [(185,⟨_,kC⟩),(230,⟨_,ql⟩),(231,⟨_,qm⟩),(232,⟨_,qo⟩),(233,⟨_,qp⟩),(234,⟨_,qw⟩),(235,⟨_,qx⟩),(236,⟨_,qy⟩),(237,⟨_,qz⟩),(227,⟨_,jU⟩)] (Gt A kC.pre kC.fn ql.pre ql.fn qm.pre qm.fn qo.pre qo.fn qp.pre qp.fn qw.pre qw.fn qx.pre qx.fn qy.pre qy.fn qz.pre qz.fn jU.pre jU.fn):=fun _=>by kernel_rfl
theorem aiP (A:Alg) (jU:Ct A.ah mY) (uY:Ct A.ah SL): @Ru aG.z X E A [] .u BA Tryz.f220 [(227,⟨_,jU⟩),(228,⟨_,uY⟩)] (Gu A jU.pre jU.fn uY.pre uY.fn):=fun _=>by kernel_rfl
theorem amr (A:Alg) (bB:Ct A.ah iD) (fM:Ct A.ah tQ) (jT:Ct A.ah zy) (wT:Ct A.ah IZ) (qA:Ct A.ah BA): @Ru aG.z X E A [] (.seq .u (.seq .u (.seq .u (.seq (.seq .u (.block (.loop ⟨[(3,.c (.pb 0 1 0)),(4,.c (.pb 1 1 0)),(6,.c (.own 2)),(22,.c (.rows false .mono)),(23,.c (.int .i64)),(24,.c (.int .i64))],[.box (.sv false .poly),.box (.agg [.nil]),.rows true .mono]⟩ (.seq .u (.seq .u (.seq (.block (.seq .u (.seq .u (.block (.loop ⟨[(3,.c (.pb 0 1 0)),(4,.c (.pb 1 1 0)),(6,.c (.own 2)),(8,.c (.pb 3 2 0)),(22,.c (.rows false .mono)),(23,.c (.int .i64)),(24,.c (.int .i64)),(29,.c (.rows false .mono)),(30,.c (.int .i64)),(31,.c (.int .i64))],[.box (.sv false .poly),.box (.agg [.nil]),.rows true .mono,.box (.sv false .mono)]⟩ .u))))) .u)))))) .u)))) zB Tryz.f197 [(67,⟨_,bB⟩),(169,⟨_,fM⟩),(217,⟨_,jT⟩),(219,⟨_,wT⟩),(220,⟨_,qA⟩)] (Od A bB.pre bB.fn fM.pre fM.fn jT.pre jT.fn wT.pre wT.fn qA.pre qA.fn):=fun _=>by kernel_rfl
theorem ams (A:Alg) (bB:Ct A.ah iD) (fO:Ct A.ah tO) (bK:Ct A.ah iT) (jV:Ct A.ah zB): @Ru aG.z X E A [(3,[(0,([2],[])),(1,([1],[])),(2,([18],[0])),(3,([17,19],[])),(4,([20],[])),(5,([16],[])),(6,([16],[])),(7,([],[])),(8,([5,21],[])),(9,([22],[]))])] .u I4 Tryz.f196 [(67,⟨_,bB⟩),(103,⟨_,fO⟩),(78,⟨_,bK⟩),(197,⟨_,jV⟩)] (Oe A bB.pre bB.fn fO.pre fO.fn bK.pre bK.fn jV.pre jV.fn):=fun _=>by kernel_rfl
theorem amt (A:Alg) (bL:Ct A.ah iR) (fO:Ct A.ah tO) (jW:Ct A.ah zu) (wU:Ct A.ah IY) (jV:Ct A.ah zB) (wV:Ct A.ah I4) (jF:Ct A.ah y7): @Ru aG.z X E A [(5,[(0,([4],[])),(1,([5],[])),(2,([23],[0])),(3,([22,24],[])),(4,([25],[])),(5,([25],[])),(6,([6,26],[])),(7,([27],[]))])] (.seq .u (.seq .u (.seq .u (.seq .u (.seq .u (.seq (.seq .u (.cut ⟨[(0,.c (.int .i64)),(4,.c (.pb 0 1 0)),(6,.c (.pb 1 1 0)),(10,.c (.int .i64)),(11,.c (.bool))],[.box (.sv true .poly),.box (.agg [.nil])]⟩ (.cond .u .u))) .u)))))) I5 Tryz.f161 [(69,⟨_,bL⟩),(103,⟨_,fO⟩),(112,⟨_,jW⟩),(195,⟨_,wU⟩),(197,⟨_,jV⟩),(196,⟨_,wV⟩),(22,⟨_,jF⟩)] (Oi A bL.pre bL.fn fO.pre fO.fn jW.pre jW.fn wU.pre wU.fn jV.pre jV.fn wV.pre wV.fn jF.pre jF.fn):=fun _=>by kernel_rfl
theorem amu (A:Alg) (fK:Ct A.ah tK) (wW:Ct A.ah I5) (jP:Ct A.ah zm) (jO:Ct A.ah zn): @Ru aG.z X E A [(3,[(0,([4],[])),(1,([11],[])),(2,([8,23],[1])),(3,([9,24],[])),(4,([],[]))]),(9,[(0,([13],[])),(1,([14],[])),(2,([49],[0])),(3,([8,48],[])),(4,([9,50],[])),(5,([],[]))])] (.seq .u (.seq .u (.seq (.seq .u (.cut ⟨[(1,.c (.int .i64)),(4,.c (.pb 0 1 0)),(6,.c (.pb 1 1 0)),(7,.c (.pb 2 1 0)),(8,.c (.pb 3 1 0)),(9,.c (.pb 4 1 0))],[.box (.sv true .tab),.box (.sv true .poly),.box (.sv true .poly),.box (.agg [.nil]),.box (.agg [.nil])]⟩ (.cond .u .u))) .u))) I6 Tryz.f104 [(24,⟨_,fK⟩),(161,⟨_,wW⟩),(162,⟨_,jP⟩),(163,⟨_,jO⟩)] (Oj A fK.pre fK.fn wW.pre wW.fn jP.pre jP.fn jO.pre jO.fn):=fun _=>by kernel_rfl
theorem amv (A:Alg) (fJ:Ct A.ah tL): @Ru ⟨[25],[]⟩ X E A [(5,[(0,([3],[])),(1,([13],[])),(2,([5],[])),(3,([15],[])),(4,([5],[])),(5,([17],[])),(6,([5],[])),(7,([19],[])),(9,([5],[])),(10,([22],[])),(8,([20],[1,3,5,10])),(11,([23],[1,3,5])),(12,([16,18,21,24],[])),(13,([25],[1])),(14,([14,26],[])),(15,([3],[])),(16,([27,28],[]))])] (.seq .u (.seq .u (.seq (.seq .u (.block (.loop ⟨[(2,.c (.pb 0 1 0)),(3,.c (.pb 1 1 0)),(7,.c (.rows false .atom)),(8,.c (.int .i64)),(9,.c (.int .i64))],[.box (.agg [.nil]),.box (.agg [.own 2]),.rows true .atom]⟩ .u))) .u))) zC Tryz.f107 [(146,⟨_,fJ⟩)] (Ol A fJ.pre fJ.fn):=fun _=>by kernel_rfl
theorem amw (A:Alg) (jN:Ct A.ah zl) (fP:Ct A.ah tN) (wX:Ct A.ah IV) (jM:Ct A.ah zi) (fO:Ct A.ah tO) (wY:Ct A.ah IC) (wZ:Ct A.ah IJ) (jX:Ct A.ah zC) (w9:Ct A.ah I6) (jQ:Ct A.ah zo) (jY:Ct A.ah zq) (xg:Ct A.ah IW): @Ru aG.z X E A [(4,[(0,([6],[])),(2,([3],[])),(3,([47],[])),(4,([3],[])),(5,([49],[])),(1,([45],[3,5])),(6,([46,48,50],[])),(7,([],[])),(8,([7,51],[]))]),(27,[(0,([6],[])),(1,([134],[])),(2,([135],[])),(3,([136],[])),(4,([12],[])),(5,([138],[])),(6,([17],[])),(7,([18],[])),(8,([137,139,140,141],[])),(9,([142],[])),(10,([133],[])),(11,([133],[])),(12,([133],[])),(13,([],[])),(14,([],[])),(15,([20,143],[])),(16,([21,144],[])),(17,([145],[]))]),(30,[(0,([6],[])),(1,([8],[])),(2,([11],[])),(3,([20],[])),(4,([21],[])),(5,([150],[])),(6,([155],[])),(7,([153,156],[4])),(8,([151,152],[])),(9,([154,157],[]))]),(47,[(0,([6],[])),(1,([213],[])),(2,([214],[])),(3,([215],[])),(5,([7],[])),(6,([3],[])),(7,([219],[])),(8,([3],[])),(9,([221],[])),(10,([220,222],[])),(4,([216],[5,7,9])),(11,([218,223],[])),(12,([4,217],[])),(13,([5,224],[]))])] (.seq .u (.seq .u (.seq .u (.seq .u (.seq .u (.seq .u (.seq (.seq .u (.block (.loop ⟨[(3,.c (.pb 0 7 0)),(4,.c (.pb 1 1 0)),(5,.c (.pb 2 6 0)),(6,.c (.pb 3 2 0)),(7,.c (.pb 4 6 0)),(8,.c (.own 5)),(9,.c (.int .i64)),(10,.c (.int .i64)),(57,.c (.rows false .iop)),(58,.c (.int .i64)),(59,.c (.int .i64))],[.box (.sv false .blk),.box (.agg [.nil]),.box (.agg [.nil,.nil,.int .i64,.nil,.nil,.int .i64]),.box (.agg [.rows true .atom,.bool]),.box (.agg [.own 6,.own 7,.int .i64,.nil,.nil,.int .i64]),.rows true .poly,.rows true .ev,.rows true .poly]⟩ (.seq .u (.seq .u (.seq (.block (.seq .u (.seq .u (.seq .u (.seq (.seq .u (.cut ⟨[(3,.c (.pb 0 7 0)),(4,.c (.pb 1 1 0)),(5,.c (.pb 2 6 0)),(6,.c (.pb 3 2 0)),(7,.c (.pb 4 6 0)),(8,.c (.own 5)),(9,.c (.int .i64)),(10,.c (.int .i64)),(11,.c (.int .i64)),(12,.c (.pb 6 5 0)),(14,.c (.bool)),(17,.c (.pb 7 1 0)),(18,.c (.pb 8 1 0)),(57,.c (.rows false .iop)),(58,.c (.int .i64)),(59,.c (.int .i64))],[.box (.sv false .blk),.box (.agg [.nil]),.box (.agg [.nil,.nil,.int .i64,.nil,.nil,.int .i64]),.box (.agg [.rows true .atom,.bool]),.box (.agg [.own 9,.own 10,.int .i64,.nil,.nil,.int .i64]),.rows true .poly,.box (.sv false .iop),.box (.sv true .poly),.box (.agg [.nil]),.rows true .ev,.rows true .poly]⟩ (.cond .u .u))) (.seq (.seq .u (.cut ⟨[(3,.c (.pb 0 7 0)),(4,.c (.pb 1 1 0)),(5,.c (.pb 2 6 0)),(6,.c (.pb 3 2 0)),(7,.c (.pb 4 6 0)),(8,.c (.own 5)),(9,.c (.int .i64)),(10,.c (.int .i64)),(11,.c (.int .i64)),(12,.c (.pb 6 5 0)),(17,.c (.pb 7 1 0)),(18,.c (.pb 8 1 0)),(57,.c (.rows false .iop)),(58,.c (.int .i64)),(59,.c (.int .i64))],[.box (.sv false .blk),.box (.agg [.nil]),.box (.agg [.nil,.nil,.int .i64,.nil,.nil,.int .i64]),.box (.agg [.rows true .atom,.bool]),.box (.agg [.own 9,.own 10,.int .i64,.nil,.nil,.int .i64]),.rows true .poly,.box (.sv false .iop),.box (.sv true .poly),.box (.sv true .poly),.rows true .ev,.rows true .poly]⟩ (.cond .u .u))) (.seq (.seq .u (.cut ⟨[(3,.c (.pb 0 7 0)),(4,.c (.pb 1 1 0)),(5,.c (.pb 2 6 0)),(6,.c (.pb 3 2 0)),(7,.c (.pb 4 6 0)),(8,.c (.own 5)),(9,.c (.int .i64)),(10,.c (.int .i64)),(11,.c (.int .i64)),(12,.c (.pb 6 5 0)),(17,.c (.pb 7 1 0)),(18,.c (.pb 8 1 0)),(57,.c (.rows false .iop)),(58,.c (.int .i64)),(59,.c (.int .i64))],[.box (.sv false .blk),.box (.agg [.nil]),.box (.agg [.nil,.nil,.int .i64,.nil,.nil,.int .i64]),.box (.agg [.rows true .atom,.bool]),.box (.agg [.own 9,.own 10,.int .i64,.nil,.nil,.int .i64]),.rows true .poly,.box (.sv false .iop),.box (.sv true .poly),.box (.sv true .poly),.rows true .ev,.rows true .poly]⟩ (.cond (.seq .u (.seq (.seq .u (.cut ⟨[(3,.c (.pb 0 7 0)),(4,.c (.pb 1 1 0)),(5,.c (.pb 2 6 0)),(6,.c (.pb 3 2 0)),(7,.c (.pb 4 6 0)),(8,.c (.own 5)),(9,.c (.int .i64)),(10,.c (.int .i64)),(11,.c (.int .i64)),(12,.c (.pb 6 5 0)),(17,.c (.pb 7 1 0)),(18,.c (.pb 8 1 0)),(19,.c (.pb 9 5 0)),(57,.c (.rows false .iop)),(58,.c (.int .i64)),(59,.c (.int .i64))],[.box (.sv false .blk),.box (.agg [.nil]),.box (.agg [.nil,.nil,.int .i64,.nil,.nil,.int .i64]),.box (.agg [.rows true .atom,.bool]),.box (.agg [.own 10,.own 11,.int .i64,.nil,.nil,.int .i64]),.rows true .poly,.box (.sv false .iop),.box (.sv true .poly),.box (.sv true .poly),.box (.agg [.int .i64,.int .i64,.rows true .mono,.rows true .mono,.own 12]),.rows true .ev,.rows true .poly,.rows true .poly]⟩ (.cond .u .u))) .u)) .u))) (.seq .u (.block (.seq .u (.cut ⟨[(3,.c (.pb 0 7 0)),(4,.c (.pb 1 1 0)),(5,.c (.pb 2 6 0)),(6,.c (.pb 3 2 0)),(7,.c (.pb 4 6 0)),(8,.c (.own 5)),(9,.c (.int .i64)),(10,.c (.int .i64)),(57,.c (.rows false .iop)),(58,.c (.int .i64)),(59,.c (.int .i64))],[.box (.sv false .blk),.box (.agg [.nil]),.box (.agg [.nil,.nil,.int .i64,.nil,.nil,.int .i64]),.box (.agg [.rows true .atom,.bool]),.box (.agg [.own 6,.own 7,.int .i64,.nil,.nil,.int .i64]),.rows true .poly,.rows true .ev,.rows true .poly]⟩ (.cond .u (.seq .u (.cut ⟨[(3,.c (.pb 0 7 0)),(4,.c (.pb 1 1 0)),(5,.c (.pb 2 6 0)),(6,.c (.pb 3 2 0)),(7,.c (.pb 4 6 0)),(8,.c (.own 5)),(9,.c (.int .i64)),(10,.c (.int .i64)),(57,.c (.rows false .iop)),(58,.c (.int .i64)),(59,.c (.int .i64))],[.box (.sv false .blk),.box (.agg [.nil]),.box (.agg [.nil,.nil,.int .i64,.nil,.nil,.int .i64]),.box (.agg [.rows true .atom,.bool]),.box (.agg [.own 6,.own 7,.int .i64,.nil,.nil,.int .i64]),.rows true .poly,.rows true .ev,.rows true .poly]⟩ (.cond .u (.seq .u (.cut ⟨[(3,.c (.pb 0 7 0)),(4,.c (.pb 1 1 0)),(5,.c (.pb 2 6 0)),(6,.c (.pb 3 2 0)),(7,.c (.pb 4 6 0)),(8,.c (.own 5)),(9,.c (.int .i64)),(10,.c (.int .i64)),(57,.c (.rows false .iop)),(58,.c (.int .i64)),(59,.c (.int .i64))],[.box (.sv false .blk),.box (.agg [.nil]),.box (.agg [.nil,.nil,.int .i64,.nil,.nil,.int .i64]),.box (.agg [.rows true .atom,.bool]),.box (.agg [.own 6,.own 7,.int .i64,.nil,.nil,.int .i64]),.rows true .poly,.rows true .ev,.rows true .poly]⟩ (.cond .u (.seq .u (.cut ⟨[(3,.c (.pb 0 7 0)),(4,.c (.pb 1 1 0)),(5,.c (.pb 2 6 0)),(6,.c (.pb 3 2 0)),(7,.c (.pb 4 6 0)),(8,.c (.own 5)),(9,.c (.int .i64)),(10,.c (.int .i64)),(57,.c (.rows false .iop)),(58,.c (.int .i64)),(59,.c (.int .i64))],[.box (.sv false .blk),.box (.agg [.nil]),.box (.agg [.nil,.nil,.int .i64,.nil,.nil,.int .i64]),.box (.agg [.rows true .atom,.bool]),.box (.agg [.own 6,.own 7,.int .i64,.nil,.nil,.int .i64]),.rows true .poly,.rows true .ev,.rows true .poly]⟩ (.cond .u (.seq .u (.cut ⟨[(3,.c (.pb 0 7 0)),(4,.c (.pb 1 1 0)),(5,.c (.pb 2 6 0)),(6,.c (.pb 3 2 0)),(7,.c (.pb 4 6 0)),(8,.c (.own 5)),(9,.c (.int .i64)),(10,.c (.int .i64)),(57,.c (.rows false .iop)),(58,.c (.int .i64)),(59,.c (.int .i64))],[.box (.sv false .blk),.box (.agg [.nil]),.box (.agg [.nil,.nil,.int .i64,.nil,.nil,.int .i64]),.box (.agg [.rows true .atom,.bool]),.box (.agg [.own 6,.own 7,.int .i64,.nil,.nil,.int .i64]),.rows true .poly,.rows true .ev,.rows true .poly]⟩ (.cond .u (.seq .u (.cut ⟨[(3,.c (.pb 0 7 0)),(4,.c (.pb 1 1 0)),(5,.c (.pb 2 6 0)),(6,.c (.pb 3 2 0)),(7,.c (.pb 4 6 0)),(8,.c (.own 5)),(9,.c (.int .i64)),(10,.c (.int .i64)),(57,.c (.rows false .iop)),(58,.c (.int .i64)),(59,.c (.int .i64))],[.box (.sv false .blk),.box (.agg [.nil]),.box (.agg [.nil,.nil,.int .i64,.nil,.nil,.int .i64]),.box (.agg [.rows true .atom,.bool]),.box (.agg [.own 6,.own 7,.int .i64,.nil,.nil,.int .i64]),.rows true .poly,.rows true .ev,.rows true .poly]⟩ (.cond .u .u))))))))))))))))))))))))))) .u)))))) (.seq .u (.seq (.seq .u (.cut ⟨[(3,.c (.pb 0 7 0)),(4,.c (.pb 1 1 0)),(5,.c (.pb 2 6 0)),(6,.c (.pb 3 2 0)),(7,.c (.pb 4 6 0)),(8,.c (.own 5)),(24,.c (.bool))],[.box (.sv false .blk),.box (.agg [.nil]),.box (.agg [.nil,.nil,.int .i64,.nil,.nil,.int .i64]),.box (.agg [.rows true .atom,.bool]),.box (.agg [.own 6,.own 7,.int .i64,.rows true .mono,.nil,.int .i64]),.rows true .poly,.rows true .ev,.rows true .poly]⟩ (.cond .u .u))) (.seq (.seq .u (.cut ⟨[(3,.c (.pb 0 7 0)),(4,.c (.pb 1 1 0)),(5,.c (.pb 2 6 0)),(6,.c (.pb 3 2 0)),(7,.c (.pb 4 6 0))],[.box (.sv false .blk),.box (.agg [.nil]),.box (.agg [.nil,.nil,.int .i64,.nil,.nil,.int .i64]),.box (.agg [.rows true .atom,.bool]),.box (.agg [.own 5,.own 6,.int .i64,.rows true .mono,.rows true .mono,.int .i64]),.rows true .ev,.rows true .poly]⟩ (.cond .u .u))) .u)))))))))) I7 Tryz.f37 [(106,⟨_,jN⟩),(51,⟨_,fP⟩),(101,⟨_,wX⟩),(100,⟨_,jM⟩),(103,⟨_,fO⟩),(16,⟨_,wY⟩),(38,⟨_,wZ⟩),(107,⟨_,jX⟩),(104,⟨_,w9⟩),(105,⟨_,jQ⟩),(99,⟨_,jY⟩),(102,⟨_,xg⟩)] (Om A jN.pre jN.fn fP.pre fP.fn wX.pre wX.fn jM.pre jM.fn fO.pre fO.fn wY.pre wY.fn wZ.pre wZ.fn jX.pre jX.fn w9.pre w9.fn jQ.pre jQ.fn jY.pre jY.fn xg.pre xg.fn):=fun _=>by kernel_rfl
theorem aiQ (A:Alg): @Ru aG.z X E A [(6,[(0,([0],[])),(1,([5],[])),(2,([16,17],[])),(3,([18],[])),(4,([1],[])),(5,([5],[])),(6,([20,21],[])),(7,([22],[])),(8,([19,23],[]))])] (.seq .u (.seq .u (.seq (.seq .u (.block (.loop ⟨[(0,.c (.rows false .iop)),(1,.c (.rows false .iop)),(12,.c (.int .i64)),(13,.c (.int .i64))],[]⟩ .u))) .u))) BD Tryz.f152 [] (Gw A):=fun _=>by kernel_rfl
theorem amx (A:Alg) (qB:Ct A.ah BD): @Ru aG.z X E A [] .u I8 Tryz.f84 [(152,⟨_,qB⟩)] (Oo A qB.pre qB.fn):=fun _=>by kernel_rfl
theorem amy (A:Alg) (jX:Ct A.ah zC) (jY:Ct A.ah zq): @Ru aG.z X E A [] .u I9 Tryz.f85 [(107,⟨_,jX⟩),(99,⟨_,jY⟩)] (Oq A jX.pre jX.fn jY.pre jY.fn):=fun _=>by kernel_rfl
theorem amA (A:Alg) (bL:Ct A.ah iR): @Ru aG.z X E A [] .u Ja Tryz.f191 [(69,⟨_,bL⟩)] (Ou A bL.pre bL.fn):=fun _=>by kernel_rfl
theorem aiR (A:Alg) (xk:Ct A.ah Ja): @Ru aG.z X E A [] (.seq .u (.seq .u (.seq (.seq .u (.block (.loop ⟨[(1,.c (.rows false .poly)),(2,.c (.fn 191 [])),(15,.c (.rows false .poly)),(16,.c (.int .i64)),(17,.c (.int .i64))],[]⟩ .u))) .u))) BF Tryz.f190 [(191,⟨_,xk⟩)] (Gx A xk.pre xk.fn):=fun _=>by kernel_rfl
theorem amB (A:Alg) (qC:Ct A.ah BF): @Ru aG.z X E A [] .u zD Tryz.f155 [(190,⟨_,qC⟩)] (Ov A qC.pre qC.fn):=fun _=>by kernel_rfl
theorem amC (A:Alg) (bL:Ct A.ah iR) (jZ:Ct A.ah zD): @Ru aG.z X E A [] .u Jb Tryz.f154 [(69,⟨_,bL⟩),(155,⟨_,jZ⟩)] (Ow A bL.pre bL.fn jZ.pre jZ.fn):=fun _=>by kernel_rfl
theorem aiS (A:Alg) (xq:Ct A.ah Jb): @Ru aG.z X E A [] (.seq .u (.seq .u (.seq (.seq .u (.block (.loop ⟨[(1,.c (.rows false .ev)),(2,.c (.fn 154 [])),(15,.c (.rows false .ev)),(16,.c (.int .i64)),(17,.c (.int .i64))],[]⟩ .u))) .u))) BG Tryz.f153 [(154,⟨_,xq⟩)] (Gy A xq.pre xq.fn):=fun _=>by kernel_rfl
theorem amD (A:Alg) (bL:Ct A.ah iR) (jZ:Ct A.ah zD) (qD:Ct A.ah BG): @Ru aG.z X E A [] .u Jc Tryz.f86 [(69,⟨_,bL⟩),(155,⟨_,jZ⟩),(153,⟨_,qD⟩)] (Ox A bL.pre bL.fn jZ.pre jZ.fn qD.pre qD.fn):=fun _=>by kernel_rfl
theorem aoq (A:Alg) (fP:Ct A.ah tN) (xu:Ct A.ah I8) (xw:Ct A.ah I9) (xA:Ct A.ah I7) (xB:Ct A.ah Jc): @Ru aG.z X E A [] .u Vu Tryz.f26 [(51,⟨_,fP⟩),(84,⟨_,xu⟩),(85,⟨_,xw⟩),(37,⟨_,xA⟩),(86,⟨_,xB⟩)] (XW A fP.pre fP.fn xu.pre xu.fn xw.pre xw.fn xA.pre xA.fn xB.pre xB.fn):=fun _=>by kernel_rfl
end Go.TX.Seat
