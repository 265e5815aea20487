/- Part 4 of a proof: what the last part needs. No condition. -/
import Derived.Test.YtlfjmffimnjcgaaGreatZc
import Derived.Test.YtlfjmffimnjcgaaGreatProg
import Derived.KernelRfl
set_option linter.all false
set_option linter.unusedSectionVars false
set_option linter.unusedVariables false
set_option linter.unusedSimpArgs false
namespace Go.TX.F
open Go Go.AE Go.TX
set_option maxRecDepth 100000
@[reducible] def s_k99 : Sig := { args := [.c (.rows true .u8)], objs := [], res := [.c (.pb 0 2 0)], objs' := [.box (.agg [.rows true .u8, .int .i64])] }
@[reducible] def s_k101 : Sig := { args := [.c (.pb 0 2 0), .c (.int .i64)], objs := [.box (.agg [.rows true .u8, .int .i64])], res := [.c (.int .i64)], objs' := [.box (.agg [.rows true .u8, .int .i64])] }
@[reducible] def s_k100 : Sig := { args := [.c (.pb 0 2 0), .c (.int .i64)], objs := [.box (.agg [.rows true .u8, .int .i64])], res := [.c (.bool)], objs' := [.box (.agg [.rows true .u8, .int .i64])] }
@[reducible] def s_k98 : Sig := { args := [.c (.int .i64), .c (.int .i64), .c (.int .i64)], objs := [], res := [.c (.bool)], objs' := [] }
@[reducible] def s_k83 : Sig := { args := [.c (.int .i64)], objs := [], res := [.agg [.own 0]], objs' := [.rows true .mono] }
@[reducible] def s_k111 : Sig := { args := [.sv false .mono], objs := [], res := [.c (.bool)], objs' := [] }
@[reducible] def s_k112 : Sig := { args := [.c (.rows false .i64), .c (.rows false .i64)], objs := [], res := [.c (.int .i64)], objs' := [] }
@[reducible] def s_k87 : Sig := { args := [.sv false .poly], objs := [], res := [.c (.bool)], objs' := [] }
@[reducible] def s_k90 : Sig := { args := [.sv false .poly, .c (.int .i64)], objs := [], res := [.c (.bool)], objs' := [] }
@[reducible] def s_k115 : Sig := { args := [.sv false .atom], objs := [], res := [.c (.bool)], objs' := [] }
@[reducible] def s_k114 : Sig := { args := [.sv false .atom, .c (.int .i64)], objs := [], res := [.c (.bool)], objs' := [] }
@[reducible] def s_k88 : Sig := { args := [.sv false .poly, .sv false .poly], objs := [], res := [.c (.int .i64)], objs' := [] }
@[reducible] def s_k122 : Sig := { args := [.sv false .atom, .sv false .atom], objs := [], res := [.c (.bool)], objs' := [] }
@[reducible] def s_k93 : Sig := { args := [.sv false .tab], objs := [], res := [.c (.bool)], objs' := [] }
@[reducible] def s_k123 : Sig := { args := [.sv false .poly, .sv false .poly, .c (.int .i64)], objs := [], res := [.c (.bool)], objs' := [] }
@[reducible] def s_k97 : Sig := { args := [.c (.int .i64)], objs := [], res := [.c (.int .i64)], objs' := [] }
@[reducible] def s_k113 : Sig := { args := [.c (.rows false .mono), .sv false .mono], objs := [], res := [.c (.own 0)], objs' := [.rows false .mono] }
@[reducible] def s_k110 : Sig := { args := [.c (.rows false .i64), .c (.rows false .i64)], objs := [], res := [.c (.own 0)], objs' := [.rows true .i64] }
@[reducible] def s_k108 : Sig := { args := [.c (.rows false .mono)], objs := [], res := [.agg [.own 0]], objs' := [.rows true .mono] }
@[reducible] def s_k109 : Sig := { args := [.c (.rows false .mono)], objs := [], res := [.agg [.own 0], .c (.bool)], objs' := [.rows true .mono] }
@[reducible] def s_k85 : Sig := { args := [.sv false .poly, .sv false .poly], objs := [], res := [.agg [.own 0], .c (.bool)], objs' := [.rows true .mono] }
@[reducible] def s_k82 : Sig := { args := [.sv false .poly, .sv false .poly], objs := [], res := [.agg [.own 0], .c (.bool)], objs' := [.rows true .mono] }
@[reducible] def s_k96 : Sig := { args := [.c (.int .i64)], objs := [], res := [.c (.bool)], objs' := [] }
@[reducible] def s_k89 : Sig := { args := [.sv false .poly, .c (.int .i64)], objs := [], res := [.agg [.own 0]], objs' := [.rows true .mono] }
@[reducible] def s_k121 : Sig := { args := [.c (.int .i64), .sv false .poly, .sv false .poly], objs := [], res := [.agg [.own 0], .c (.bool)], objs' := [.rows true .mono] }
@[reducible] def s_k95 : Sig := { args := [.c (.int .i64), .c (.int .i64), .c (.int .i64)], objs := [], res := [.c (.int .i64)], objs' := [] }
@[reducible] def s_k84 : Sig := { args := [.c (.int .i64)], objs := [], res := [.agg [.own 0]], objs' := [.rows true .mono] }
@[reducible] def s_k86 : Sig := { args := [.sv false .poly], objs := [], res := [.c (.int .i64), .c (.bool)], objs' := [] }
@[reducible] def s_k119 : Sig := { args := [.c (.int .i64), .c (.int .i64), .sv false .poly], objs := [], res := [.agg [.own 0], .c (.bool)], objs' := [.rows true .mono] }
@[reducible] def s_k116 : Sig := { args := [.c (.int .i64), .sv false .poly, .sv false .poly], objs := [], res := [.agg [.own 0], .c (.bool)], objs' := [.rows true .mono] }
@[reducible] def s_k124 : Sig := { args := [.sv false .atom], objs := [], res := [.agg [.int .i64, .int .i64, .own 0, .own 1]], objs' := [.rows true .mono, .rows true .mono] }
@[reducible] def s_k120 : Sig := { args := [.agg [.own 0], .sv false .atom], objs := [.rows true .atom], res := [.agg [.own 1], .c (.int .i64)], objs' := [.gone, .rows true .atom] }
@[reducible] def s_k118 : Sig := { args := [.agg [.own 0], .c (.int .i64), .sv false .poly, .sv false .poly], objs := [.rows true .atom], res := [.agg [.own 1], .agg [.own 2]], objs' := [.gone, .rows true .atom, .rows true .mono] }
@[reducible] def s_k117 : Sig := { args := [.sv false .tab], objs := [], res := [.agg [.own 0]], objs' := [.rows true .atom] }
@[reducible] def s_k92 : Sig := { args := [.sv false .tab, .c (.int .i64), .sv false .poly, .sv false .poly], objs := [], res := [.agg [.own 0], .agg [.own 1]], objs' := [.rows true .atom, .rows true .mono] }
@[reducible] def s_k102 : Sig := { args := [.c (.pb 0 2 0)], objs := [.box (.agg [.rows true .u8, .int .i64])], res := [.c (.int .i64)], objs' := [.box (.agg [.rows true .u8, .int .i64])] }
@[reducible] def s_k105 : Sig := { args := [.c (.pb 0 2 0), .c (.int .i64)], objs := [.box (.agg [.rows true .u8, .int .i64])], res := [.agg [.own 1]], objs' := [.box (.agg [.rows true .u8, .int .i64]), .rows true .mono] }
@[reducible] def s_k91 : Sig := { args := [], objs := [], res := [.agg [.own 0], .c (.own 1)], objs' := [.rows true .atom, .rows true .poly] }
@[reducible] def s_k94 : Sig := { args := [.sv false .tab, .sv false .atom], objs := [], res := [.agg [.own 0], .c (.int .i64)], objs' := [.rows true .atom] }
@[reducible] def s_k106 : Sig := { args := [.c (.pb 0 2 0)], objs := [.box (.agg [.rows true .u8, .int .i64])], res := [.agg [.own 1]], objs' := [.box (.agg [.rows true .u8, .int .i64]), .rows true .atom] }
@[reducible] def s_k107 : Sig := { args := [.c (.pb 0 2 0), .c (.int .i64)], objs := [.box (.agg [.rows true .u8, .int .i64])], res := [.agg [.own 1]], objs' := [.box (.agg [.rows true .u8, .int .i64]), .rows true .atom] }
@[reducible] def s_k79 : Sig := { args := [.c (.rows true .u8)], objs := [], res := [.agg [.own 0], .c (.int .i64), .agg [.rows true .mono], .agg [.rows true .mono]], objs' := [.rows true .atom] }
@[reducible] def s_k34 : Sig := { args := [.c (.int .i64), .c (.int .i64), .c (.int .i64)], objs := [], res := [.c (.bool)], objs' := [] }
@[reducible] def s_k35 : Sig := { args := [.c (.int .i64)], objs := [], res := [.c (.bool)], objs' := [] }
@[reducible] def s_k15 : Sig := { args := [.c (.int .i64), .c (.pb 0 1 0)], objs := [.box (.c (.int .i64))], res := [.c (.bool)], objs' := [.box (.c (.int .i64))] }
@[reducible] def s_k61 : Sig := { args := [.c (.rows false .i64), .c (.fn 60 [(0, 1)])], objs := [.box (.c (.int .i64))], res := [.c (.int .i64)], objs' := [.box (.c (.int .i64))] }
@[reducible] def s_k56 : Sig := { args := [.c (.rows false .i64), .c (.fn 60 [(0, 1)])], objs := [.box (.c (.int .i64))], res := [.c (.bool)], objs' := [.box (.c (.int .i64))] }
@[reducible] def s_k14 : Sig := { args := [.sv false .poly, .c (.int .i64)], objs := [], res := [.c (.bool)], objs' := [] }
@[reducible] def s_k3 : Sig := { args := [.c (.int .i64)], objs := [], res := [.c (.bool)], objs' := [] }
@[reducible] def s_k1 : Sig := { args := [.c (.int .i64), .c (.int .i64)], objs := [], res := [.c (.bool)], objs' := [] }
@[reducible] def s_k62 : Sig := { args := [.c (.rows false .i64)], objs := [], res := [.c (.bool)], objs' := [] }
@[reducible] def s_k2 : Sig := { args := [.c (.rows false .i64)], objs := [], res := [.c (.int .i64)], objs' := [] }
@[reducible] def s_k0 : Sig := { args := [.c (.int .i64), .c (.int .i64)], objs := [], res := [.c (.int .i64)], objs' := [] }
@[reducible] def s_k52 : Sig := { args := [.c (.rows false .i64), .c (.rows false .i64)], objs := [], res := [.c (.int .i64)], objs' := [] }
@[reducible] def s_k32 : Sig := { args := [.c (.rows false .i64), .c (.rows false .i64)], objs := [], res := [.c (.int .i64)], objs' := [] }
@[reducible] def s_k11 : Sig := { args := [.sv false .mono], objs := [], res := [.c (.bool)], objs' := [] }
@[reducible] def s_k60 : Sig := { args := [.c (.rows false .mono), .c (.fn 58 [])], objs := [], res := [.c (.int .i64)], objs' := [] }
@[reducible] def s_k55 : Sig := { args := [.c (.rows false .mono), .c (.fn 58 [])], objs := [], res := [.c (.bool)], objs' := [] }
@[reducible] def s_k10 : Sig := { args := [.sv false .poly], objs := [], res := [.c (.bool)], objs' := [] }
@[reducible] def s_k36 : Sig := { args := [.c (.int .i64)], objs := [], res := [.c (.bool)], objs' := [] }
@[reducible] def s_k16 : Sig := { args := [.sv false .atom, .c (.int .i64)], objs := [], res := [.c (.bool)], objs' := [] }
@[reducible] def s_k12 : Sig := { args := [.sv false .poly, .sv false .poly], objs := [], res := [.c (.int .i64)], objs' := [] }
@[reducible] def s_k28 : Sig := { args := [.sv false .poly, .sv false .poly], objs := [], res := [.c (.bool)], objs' := [] }
@[reducible] def s_k17 : Sig := { args := [.sv false .atom, .sv false .atom], objs := [], res := [.c (.bool)], objs' := [] }
@[reducible] def s_k23 : Sig := { args := [.sv false .atom, .c (.pb 0 4 0)], objs := [.box (.sv false .atom)], res := [.c (.bool)], objs' := [.box (.sv false .atom)] }
@[reducible] def s_k59 : Sig := { args := [.c (.rows false .atom), .c (.fn 78 [(0, 4)])], objs := [.box (.sv false .atom)], res := [.c (.int .i64)], objs' := [.box (.sv false .atom)] }
@[reducible] def s_k22 : Sig := { args := [.sv false .tab, .sv false .atom], objs := [], res := [.c (.int .i64)], objs' := [] }
@[reducible] def s_k19 : Sig := { args := [.sv false .tab], objs := [], res := [.c (.bool)], objs' := [] }
@[reducible] def s_k6 : Sig := { args := [.c (.int .i64)], objs := [], res := [.agg [.own 0]], objs' := [.rows true .mono] }
@[reducible] def s_k30 : Sig := { args := [.c (.int .i64)], objs := [], res := [.c (.bool)], objs' := [] }
@[reducible] def s_k31 : Sig := { args := [.c (.int .i64)], objs := [], res := [.c (.int .i64)], objs' := [] }
@[reducible] def s_k29 : Sig := { args := [.c (.int .i64), .c (.int .i64), .c (.int .i64)], objs := [], res := [.c (.int .i64)], objs' := [] }
@[reducible] def s_k33 : Sig := { args := [.c (.rows false .i64)], objs := [], res := [.c (.own 0)], objs' := [.rows true .i64] }
@[reducible] def s_k39 : Sig := { args := [.sv false .mono, .sv false .mono], objs := [], res := [.c (.int .i64)], objs' := [] }
@[reducible] def s_k68 : Sig := { args := [.c (.own 0), .c (.int .i64), .c (.int .i64), .c (.fn 110 [])], objs := [.rows false .mono], res := [], objs' := [.rows false .mono] }
@[reducible] def s_k77 : Sig := { args := [.c (.own 0), .c (.int .i64), .c (.int .i64), .c (.int .i64), .c (.fn 110 [])], objs := [.rows false .mono], res := [], objs' := [.rows false .mono] }
@[reducible] def s_k75 : Sig := { args := [.c (.own 0), .c (.int .i64), .c (.int .i64), .c (.int .i64), .c (.fn 110 [])], objs := [.rows false .mono], res := [], objs' := [.rows false .mono] }
@[reducible] def s_k78 : Sig := { args := [.c (.own 0), .c (.int .i64), .c (.int .i64), .c (.int .i64), .c (.fn 110 [])], objs := [.rows false .mono], res := [], objs' := [.rows false .mono] }
@[reducible] def s_k76 : Sig := { args := [.c (.own 0), .c (.int .i64), .c (.fn 110 [])], objs := [.rows false .mono], res := [], objs' := [.rows false .mono] }
@[reducible] def s_k63 : Sig := { args := [.c (.own 0), .c (.fn 110 [])], objs := [.rows false .mono], res := [], objs' := [.rows false .mono] }
@[reducible] def s_k38 : Sig := { args := [.c (.own 0)], objs := [.rows false .mono], res := [.agg [.own 1], .c (.bool)], objs' := [.rows false .mono, .rows true .mono] }
@[reducible] def s_k57 : Sig := { args := [.c (.nil), .c (.int .i64)], objs := [], res := [.c (.own 0)], objs' := [.rows true .mono] }
@[reducible] def s_k53 : Sig := { args := [.c (.rows false .poly)], objs := [], res := [.c (.own 0)], objs' := [.rows false .mono] }
@[reducible] def s_k4 : Sig := { args := [.sv false .poly, .sv false .poly], objs := [], res := [.agg [.own 0], .c (.bool)], objs' := [.rows true .mono] }
@[reducible] def s_k58 : Sig := { args := [.c (.nil), .c (.int .i64)], objs := [], res := [.c (.own 0)], objs' := [.rows true .i64] }
@[reducible] def s_k54 : Sig := { args := [.c (.rows false .ints)], objs := [], res := [.c (.own 0)], objs' := [.rows true .i64] }
@[reducible] def s_k69 : Sig := { args := [.c (.own 0), .c (.int .i64), .c (.int .i64)], objs := [.rows true .i64], res := [], objs' := [.rows true .i64] }
@[reducible] def s_k67 : Sig := { args := [.c (.own 0), .c (.int .i64), .c (.int .i64)], objs := [.rows true .i64], res := [], objs' := [.rows true .i64] }
@[reducible] def s_k65 : Sig := { args := [.c (.own 0), .c (.int .i64), .c (.int .i64)], objs := [.rows true .i64], res := [], objs' := [.rows true .i64] }
@[reducible] def s_k66 : Sig := { args := [.c (.own 0), .c (.int .i64), .c (.int .i64)], objs := [.rows true .i64], res := [.c (.int .i64), .c (.int .i64)], objs' := [.rows true .i64] }
@[reducible] def s_k74 : Sig := { args := [.c (.own 0), .c (.int .i64), .c (.int .i64)], objs := [.rows true .i64], res := [], objs' := [.rows true .i64] }
@[reducible] def s_k70 : Sig := { args := [.c (.own 0), .c (.int .i64), .c (.int .i64)], objs := [.rows true .i64], res := [.c (.bool)], objs' := [.rows true .i64] }
@[reducible] def s_k71 : Sig := { args := [.c (.own 0), .c (.int .i64), .c (.int .i64), .c (.int .i64)], objs := [.rows true .i64], res := [.c (.int .i64)], objs' := [.rows true .i64] }
@[reducible] def s_k72 : Sig := { args := [.c (.own 0), .c (.int .i64), .c (.int .i64), .c (.int .i64)], objs := [.rows true .i64], res := [.c (.int .i64), .c (.bool)], objs' := [.rows true .i64] }
@[reducible] def s_k73 : Sig := { args := [.c (.own 0), .c (.int .i64), .c (.int .i64), .c (.int .i64)], objs := [.rows true .i64], res := [], objs' := [.rows true .i64] }
@[reducible] def s_k50 : Sig := { args := [.c (.int .u64)], objs := [], res := [.c (.int .i64)], objs' := [] }
@[reducible] def s_k64 : Sig := { args := [.c (.own 0)], objs := [.rows true .i64], res := [], objs' := [.rows true .i64] }
@[reducible] def s_k8 : Sig := { args := [.sv false .poly, .sv false .poly], objs := [], res := [.agg [.own 0], .c (.bool)], objs' := [.rows true .mono] }
@[reducible] def s_k13 : Sig := { args := [.sv false .poly, .c (.int .i64)], objs := [], res := [.agg [.own 0]], objs' := [.rows true .mono] }
@[reducible] def s_k9 : Sig := { args := [.sv false .poly], objs := [], res := [.c (.int .i64), .c (.bool)], objs' := [] }
@[reducible] def s_k37 : Sig := { args := [.c (.int .i64), .sv false .poly, .sv false .poly], objs := [], res := [.sv false .poly, .c (.bool)], objs' := [] }
@[reducible] def s_k51 : Sig := { args := [.c (.rows false .atom)], objs := [], res := [.c (.clip false .atom)], objs' := [] }
@[reducible] def s_k24 : Sig := { args := [.sv false .tab, .sv false .atom], objs := [], res := [.sv false .tab, .c (.int .i64)], objs' := [] }
@[reducible] def s_k5 : Sig := { args := [.c (.int .i64)], objs := [], res := [.agg [.own 0]], objs' := [.rows true .mono] }
@[reducible] def s_k21 : Sig := { args := [.sv false .tab, .c (.int .i64), .sv false .poly, .sv false .poly], objs := [], res := [.sv false .tab, .sv false .poly, .c (.bool)], objs' := [] }
@[reducible] def s_k26 : Sig := { args := [.sv false .poly], objs := [], res := [.agg [.own 0]], objs' := [.rows true .mono] }
@[reducible] def s_k20 : Sig := { args := [.sv false .tab], objs := [], res := [.agg [.own 0]], objs' := [.rows true .atom] }
@[reducible] def s_k18 : Sig := { args := [.sv false .tab, .c (.int .i64), .sv false .poly, .sv false .poly], objs := [], res := [.agg [.own 0], .agg [.own 1]], objs' := [.rows true .atom, .rows true .mono] }
@[reducible] def s_k46 : Sig := { args := [], objs := [], res := [.c (.bool)], objs' := [] }
@[reducible] def s_k45 : Sig := { args := [.c (.rows false .i64), .c (.rows false .i64)], objs := [], res := [.c (.bool)], objs' := [] }
@[reducible] def s_k47 : Sig := { args := [.sv false .poly, .sv false .poly], objs := [], res := [.c (.bool)], objs' := [] }
@[reducible] def s_k48 : Sig := { args := [.sv false .tab, .sv false .tab], objs := [], res := [.c (.bool)], objs' := [] }
@[reducible] def s_k104 : Sig := { args := [.c (.pb 0 2 0), .c (.int .i64)], objs := [.box (.agg [.rows true .u8, .int .i64])], res := [.c (.own 1)], objs' := [.box (.agg [.rows true .u8, .int .i64]), .rows true .i64] }
@[reducible] def s_k80 : Sig := { args := [.c (.rows true .u8)], objs := [], res := [.agg [.own 0], .c (.own 1), .c (.own 2), .c (.own 3)], objs' := [.rows true .atom, .rows true .i64, .rows true .i64, .rows true .i64] }
@[reducible] def s_k41 : Sig := { args := [.c (.rows false .i64)], objs := [], res := [.c (.bool)], objs' := [] }
@[reducible] def s_k40 : Sig := { args := [.c (.rows false .i64), .c (.int .i64)], objs := [], res := [.c (.int .i64)], objs' := [] }
@[reducible] def s_k27 : Sig := { args := [.sv false .poly, .c (.rows false .i64)], objs := [], res := [.c (.int .i64)], objs' := [] }
@[reducible] def s_k25 : Sig := { args := [.sv false .tab, .c (.rows false .i64), .c (.rows false .i64), .c (.rows false .i64)], objs := [], res := [.c (.own 0)], objs' := [.rows true .i64] }
@[reducible] def s_k49 : Sig := { args := [.c (.rows false .i64)], objs := [], res := [.c (.own 0)], objs' := [.rows true .i64] }
@[reducible] def s_k7 : Sig := { args := [.sv false .poly, .c (.rows false .i64)], objs := [], res := [.c (.int .i64)], objs' := [] }
@[reducible] def s_k42 : Sig := { args := [.c (.rows true .u8), .c (.rows true .u8)], objs := [], res := [.c (.bool)], objs' := [] }
def F_k99 (A:Alg) (x:Tup A.toCar [.l .u8]):A.M (Tup A.toCar [.l .u8,.i]):=
(A.bind [.l .u8]
(A.cond (A.cmp .gtr (A.len .u8 x.1) (A.lit 2000))
(A.chk (A.cmp .leq (A.lit 0) (A.lit 0))
(A.chk (A.cmp .leq (A.lit 0) (A.lit 2000))
(A.chk (A.cmp .leq (A.lit 2000) (A.len .u8 x.1))
(A.letT [.l .u8] ((A.sub .u8 x.1 (A.lit 0) (A.lit 2000)),()) fun x0=>
(A.ret [.l .u8] (x0.1,()))))))
(A.ret [.l .u8] (x.1,())))
fun x0=>
(A.ret [.l .u8,.i] (x0.1,(A.lit 0),())))
def F_k101 (A:Alg) (x:Tup A.toCar [.i,.l .u8,.i]):A.M (Tup A.toCar [.i,.l .u8,.i]):=
(A.letT [.i] ((A.lit 0),()) fun x0=>
(A.letT [.i] ((A.arith .add .i64 x.2.2.1 (A.lit 1)),()) fun x1=>
(A.cond (A.iteB (A.cmp .lss x.1 (A.lit 1)) (A.bl true) (A.cmp .eql (A.len .u8 x.2.1) (A.lit 0)))
(A.letT [.i] ((A.lit 0),()) fun x2=>
(A.ret [.i,.l .u8,.i] (x2.1,x.2.1,x1.1,())))
(A.letT [.i] ((A.arith .sub .i64 x1.1 (A.lit 1)),()) fun x2=>
(A.cond (A.cmp .lss x2.1 (A.len .u8 x.2.1))
(A.chk (A.cmp .leq (A.lit 0) x2.1)
(A.chk (A.cmp .lss x2.1 (A.len .u8 x.2.1))
(A.chk (A.cmp .neq x.1 (A.lit 0))
(A.letT [.i] ((A.arith .rem .i64 (A.conv .i64 (A.fI .u8 0 (A.get .u8 x.2.1 x2.1))) x.1),()) fun x3=>
(A.ret [.i,.l .u8,.i] (x3.1,x.2.1,x1.1,()))))))
(A.chk (A.cmp .neq (A.len .u8 x.2.1) (A.lit 0))
(A.chk (A.cmp .leq (A.lit 0) (A.arith .rem .i64 x2.1 (A.len .u8 x.2.1)))
(A.chk (A.cmp .lss (A.arith .rem .i64 x2.1 (A.len .u8 x.2.1)) (A.len .u8 x.2.1))
(A.chk (A.cmp .neq (A.len .u8 x.2.1) (A.lit 0))
(A.chk (A.cmp .leq (A.lit 0) (A.arith .rem .i64 (A.arith .add .i64 (A.arith .mul .i64 x2.1 (A.lit 7)) (A.lit 3)) (A.len .u8 x.2.1)))
(A.chk (A.cmp .lss (A.arith .rem .i64 (A.arith .add .i64 (A.arith .mul .i64 x2.1 (A.lit 7)) (A.lit 3)) (A.len .u8 x.2.1)) (A.len .u8 x.2.1))
(A.chk (A.cmp .neq (A.len .u8 x.2.1) (A.lit 0))
(A.letT [.i] ((A.arith .add .i64 (A.arith .add .i64 (A.arith .add .i64 (A.arith .mul .i64 (A.conv .i64 (A.fI .u8 0 (A.get .u8 x.2.1 (A.arith .rem .i64 x2.1 (A.len .u8 x.2.1))))) (A.lit 131)) (A.arith .mul .i64 (A.conv .i64 (A.fI .u8 0 (A.get .u8 x.2.1 (A.arith .rem .i64 (A.arith .add .i64 (A.arith .mul .i64 x2.1 (A.lit 7)) (A.lit 3)) (A.len .u8 x.2.1))))) (A.lit 1117))) (A.arith .mul .i64 x2.1 (A.lit 29))) (A.arith .mul .i64 (A.arith .quo .i64 x2.1 (A.len .u8 x.2.1)) (A.lit 53))),()) fun x3=>
(A.chk (A.cmp .neq (A.lit 64) (A.lit 0))
(A.letT [.i] ((A.arith .xor .i64 x3.1 (A.arith .quo .i64 x3.1 (A.lit 64))),()) fun x4=>
(A.chk (A.cmp .neq x.1 (A.lit 0))
(A.letT [.i] ((A.arith .rem .i64 x4.1 x.1),()) fun x5=>
(A.ret [.i,.l .u8,.i] (x5.1,x.2.1,x1.1,())))))))))))))))))))
def F_k100 (A:Alg) (p_k101:Tup A.toCar [.i,.l .u8,.i]→A.B) (f_k101:Tup A.toCar [.i,.l .u8,.i]→Tup A.toCar [.i,.l .u8,.i]) (x:Tup A.toCar [.i,.l .u8,.i]):A.M (Tup A.toCar [.b,.l .u8,.i]):=
(A.letT [.b] ((A.bl false),()) fun x0=>
(A.chk (p_k101 (x.1,x.2.1,x.2.2.1,()))
(A.letT [.i,.l .u8,.i] ((f_k101 (x.1,x.2.1,x.2.2.1,())).1,(f_k101 (x.1,x.2.1,x.2.2.1,())).2.1,(f_k101 (x.1,x.2.1,x.2.2.1,())).2.2.1,()) fun x1=>
(A.letT [.b] ((A.cmp .eql x1.1 (A.arith .sub .i64 x.1 (A.lit 1))),()) fun x2=>
(A.ret [.b,.l .u8,.i] (x2.1,x1.2.1,x1.2.2.1,()))))))
def F_k98 (A:Alg) (x:Tup A.toCar [.i,.i,.i]):A.M (Tup A.toCar [.b]):=
(A.letT [.b] ((A.bl false),()) fun x0=>
(A.letT [.b] ((A.iteB (A.cmp .geq x.1 x.2.1) (A.cmp .leq x.1 x.2.2.1) (A.bl false)),()) fun x1=>
(A.ret [.b] (x1.1,()))))
def F_k83 (A:Alg) (p_k98:Tup A.toCar [.i,.i,.i]→A.B) (f_k98:Tup A.toCar [.i,.i,.i]→Tup A.toCar [.b]) (x:Tup A.toCar [.i]):A.M (Tup A.toCar [.l .mono]):=
(A.chk (p_k98 (x.1,(A.lit 0),(A.lit 199),()))
(A.letT [.b] ((f_k98 (x.1,(A.lit 0),(A.lit 199),())).1,()) fun x0=>
(A.cond (A.notB x0.1)
(A.ret [.l .mono] ((A.nilL .mono),()))
(A.letT [.l .i64] ((A.lst .i64 [(A.mkX .i64 (x.1,()))]),()) fun x1=>
(A.letT [.l .mono] ((A.lst .mono [(A.mkX .mono ((A.lit 1),x1.1,()))]),()) fun x2=>
(A.ret [.l .mono] (x2.1,())))))))
def F_k111 (A:Alg) (p_k98:Tup A.toCar [.i,.i,.i]→A.B) (f_k98:Tup A.toCar [.i,.i,.i]→Tup A.toCar [.b]) (x:Tup A.toCar [.x .mono]):A.M (Tup A.toCar [.b]):=
(A.letT [.b] ((A.bl false),()) fun x0=>
(A.chk (p_k98 ((A.fI .mono 0 x.1),(A.lit 1),(A.lit 65535),()))
(A.letT [.b] ((f_k98 ((A.fI .mono 0 x.1),(A.lit 1),(A.lit 65535),())).1,()) fun x1=>
(A.cond (A.iteB (A.notB x1.1) (A.bl true) (A.cmp .gtr (A.len .i64 (A.fL .mono 1 .i64 x.1)) (A.lit 4)))
(A.letT [.b] ((A.bl false),()) fun x2=>
(A.ret [.b] (x2.1,())))
(A.letT [.i] ((A.lit 0),()) fun x2=>
(A.iter [.i,.x .mono] (fun x3=>
(A.cond (A.cmp .lss x3.1 (A.len .i64 (A.fL .mono 1 .i64 x3.2.1)))
(A.chk (A.cmp .leq (A.lit 0) x3.1)
(A.chk (A.cmp .lss x3.1 (A.len .i64 (A.fL .mono 1 .i64 x3.2.1)))
(A.chk (p_k98 ((A.fI .i64 0 (A.get .i64 (A.fL .mono 1 .i64 x3.2.1) x3.1)),(A.lit 0),(A.lit 199),()))
(A.letT [.b] ((f_k98 ((A.fI .i64 0 (A.get .i64 (A.fL .mono 1 .i64 x3.2.1) x3.1)),(A.lit 0),(A.lit 199),())).1,()) fun x4=>
(A.chk (A.orB (A.notB (A.andB (A.notB (A.notB x4.1)) (A.cmp .gtr x3.1 (A.lit 0)))) (A.cmp .leq (A.lit 0) (A.arith .sub .i64 x3.1 (A.lit 1))))
(A.chk (A.orB (A.notB (A.andB (A.notB (A.notB x4.1)) (A.cmp .gtr x3.1 (A.lit 0)))) (A.cmp .lss (A.arith .sub .i64 x3.1 (A.lit 1)) (A.len .i64 (A.fL .mono 1 .i64 x3.2.1))))
(A.chk (A.orB (A.notB (A.andB (A.notB (A.notB x4.1)) (A.cmp .gtr x3.1 (A.lit 0)))) (A.cmp .leq (A.lit 0) x3.1))
(A.chk (A.orB (A.notB (A.andB (A.notB (A.notB x4.1)) (A.cmp .gtr x3.1 (A.lit 0)))) (A.cmp .lss x3.1 (A.len .i64 (A.fL .mono 1 .i64 x3.2.1))))
(A.cond (A.iteB (A.notB x4.1) (A.bl true) (A.iteB (A.cmp .gtr x3.1 (A.lit 0)) (A.cmp .gtr (A.fI .i64 0 (A.get .i64 (A.fL .mono 1 .i64 x3.2.1) (A.arith .sub .i64 x3.1 (A.lit 1)))) (A.fI .i64 0 (A.get .i64 (A.fL .mono 1 .i64 x3.2.1) x3.1))) (A.bl false)))
(A.letT [.b] ((A.bl false),()) fun x5=>
(A.inr [.i,.x .mono] (A.ret [.b] (x5.1,()))))
(A.letT [.i] ((A.arith .add .i64 x3.1 (A.lit 1)),()) fun x5=>
(A.inl [.i,.x .mono] (x5.1,x3.2.1,()))))))))))))
(A.inr [.i,.x .mono] (A.letT [.b] ((A.bl true),()) fun x4=>
(A.ret [.b] (x4.1,())))))) (x2.1,x.1,())))))))
def F_k112 (A:Alg) (x:Tup A.toCar [.l .i64,.l .i64]):A.M (Tup A.toCar [.i]):=
(A.letT [.i] ((A.lit 0),()) fun x0=>
(A.cond (A.cmp .neq (A.len .i64 x.1) (A.len .i64 x.2.1))
(A.cond (A.cmp .lss (A.len .i64 x.1) (A.len .i64 x.2.1))
(A.letT [.i] ((A.lit (-1)),()) fun x1=>
(A.ret [.i] (x1.1,())))
(A.letT [.i] ((A.lit 1),()) fun x1=>
(A.ret [.i] (x1.1,()))))
(A.letT [.i] ((A.lit 0),()) fun x1=>
(A.iter [.l .i64,.l .i64,.i] (fun x2=>
(A.cond (A.cmp .lss x2.2.2.1 (A.len .i64 x2.1))
(A.chk (A.cmp .leq (A.lit 0) x2.2.2.1)
(A.chk (A.cmp .lss x2.2.2.1 (A.len .i64 x2.1))
(A.chk (A.cmp .leq (A.lit 0) x2.2.2.1)
(A.chk (A.cmp .lss x2.2.2.1 (A.len .i64 x2.2.1))
(A.cond (A.cmp .lss (A.fI .i64 0 (A.get .i64 x2.1 x2.2.2.1)) (A.fI .i64 0 (A.get .i64 x2.2.1 x2.2.2.1)))
(A.letT [.i] ((A.lit (-1)),()) fun x3=>
(A.inr [.l .i64,.l .i64,.i] (A.ret [.i] (x3.1,()))))
(A.chk (A.cmp .leq (A.lit 0) x2.2.2.1)
(A.chk (A.cmp .lss x2.2.2.1 (A.len .i64 x2.1))
(A.chk (A.cmp .leq (A.lit 0) x2.2.2.1)
(A.chk (A.cmp .lss x2.2.2.1 (A.len .i64 x2.2.1))
(A.cond (A.cmp .gtr (A.fI .i64 0 (A.get .i64 x2.1 x2.2.2.1)) (A.fI .i64 0 (A.get .i64 x2.2.1 x2.2.2.1)))
(A.letT [.i] ((A.lit 1),()) fun x3=>
(A.inr [.l .i64,.l .i64,.i] (A.ret [.i] (x3.1,()))))
(A.letT [.i] ((A.arith .add .i64 x2.2.2.1 (A.lit 1)),()) fun x3=>
(A.inl [.l .i64,.l .i64,.i] (x2.1,x2.2.1,x3.1,())))))))))))))
(A.inr [.l .i64,.l .i64,.i] (A.letT [.i] ((A.lit 0),()) fun x3=>
(A.ret [.i] (x3.1,())))))) (x.1,x.2.1,x1.1,())))))
def F_k87 (A:Alg) (p_k111:Tup A.toCar [.x .mono]→A.B) (f_k111:Tup A.toCar [.x .mono]→Tup A.toCar [.b]) (p_k112:Tup A.toCar [.l .i64,.l .i64]→A.B) (f_k112:Tup A.toCar [.l .i64,.l .i64]→Tup A.toCar [.i]) (x:Tup A.toCar [.x .poly]):A.M (Tup A.toCar [.b]):=
(A.letT [.b] ((A.bl false),()) fun x0=>
(A.cond (A.cmp .gtr (A.len .mono (A.fL .poly 0 .mono x.1)) (A.lit 12))
(A.letT [.b] ((A.bl false),()) fun x1=>
(A.ret [.b] (x1.1,())))
(A.letT [.i] ((A.lit 0),()) fun x1=>
(A.iter [.i,.x .poly] (fun x2=>
(A.cond (A.cmp .lss x2.1 (A.len .mono (A.fL .poly 0 .mono x2.2.1)))
(A.chk (A.cmp .leq (A.lit 0) x2.1)
(A.chk (A.cmp .lss x2.1 (A.len .mono (A.fL .poly 0 .mono x2.2.1)))
(A.chk (p_k111 ((A.get .mono (A.fL .poly 0 .mono x2.2.1) x2.1),()))
(A.letT [.b] ((f_k111 ((A.get .mono (A.fL .poly 0 .mono x2.2.1) x2.1),())).1,()) fun x3=>
(A.chk (A.orB (A.notB (A.andB (A.notB (A.notB x3.1)) (A.cmp .gtr x2.1 (A.lit 0)))) (A.cmp .leq (A.lit 0) (A.arith .sub .i64 x2.1 (A.lit 1))))
(A.chk (A.orB (A.notB (A.andB (A.notB (A.notB x3.1)) (A.cmp .gtr x2.1 (A.lit 0)))) (A.cmp .lss (A.arith .sub .i64 x2.1 (A.lit 1)) (A.len .mono (A.fL .poly 0 .mono x2.2.1))))
(A.chk (A.orB (A.notB (A.andB (A.notB (A.notB x3.1)) (A.cmp .gtr x2.1 (A.lit 0)))) (A.cmp .leq (A.lit 0) x2.1))
(A.chk (A.orB (A.notB (A.andB (A.notB (A.notB x3.1)) (A.cmp .gtr x2.1 (A.lit 0)))) (A.cmp .lss x2.1 (A.len .mono (A.fL .poly 0 .mono x2.2.1))))
(A.chk (A.orB (A.notB (A.andB (A.notB (A.notB x3.1)) (A.cmp .gtr x2.1 (A.lit 0)))) (p_k112 ((A.fL .mono 1 .i64 (A.get .mono (A.fL .poly 0 .mono x2.2.1) (A.arith .sub .i64 x2.1 (A.lit 1)))),(A.fL .mono 1 .i64 (A.get .mono (A.fL .poly 0 .mono x2.2.1) x2.1)),())))
(A.letT [.i] ((f_k112 ((A.fL .mono 1 .i64 (A.get .mono (A.fL .poly 0 .mono x2.2.1) (A.arith .sub .i64 x2.1 (A.lit 1)))),(A.fL .mono 1 .i64 (A.get .mono (A.fL .poly 0 .mono x2.2.1) x2.1)),())).1,()) fun x4=>
(A.cond (A.iteB (A.notB x3.1) (A.bl true) (A.iteB (A.cmp .gtr x2.1 (A.lit 0)) (A.cmp .geq x4.1 (A.lit 0)) (A.bl false)))
(A.letT [.b] ((A.bl false),()) fun x5=>
(A.inr [.i,.x .poly] (A.ret [.b] (x5.1,()))))
(A.letT [.i] ((A.arith .add .i64 x2.1 (A.lit 1)),()) fun x5=>
(A.inl [.i,.x .poly] (x5.1,x2.2.1,()))))))))))))))
(A.inr [.i,.x .poly] (A.letT [.b] ((A.bl true),()) fun x3=>
(A.ret [.b] (x3.1,())))))) (x1.1,x.1,())))))
def F_k90 (A:Alg) (x:Tup A.toCar [.x .poly,.i]):A.M (Tup A.toCar [.b]):=
(A.letT [.b] ((A.bl false),()) fun x0=>
(A.letT [.i] ((A.lit 0),()) fun x1=>
(A.iter [.i,.i,.x .poly] (fun x2=>
(A.cond (A.cmp .lss x2.2.1 (A.len .mono (A.fL .poly 0 .mono x2.2.2.1)))
(A.letT [.i] ((A.lit 0),()) fun x3=>
(A.iter [.i,.i,.i,.x .poly] (fun x4=>
(A.chk (A.cmp .leq (A.lit 0) x4.2.1)
(A.chk (A.cmp .lss x4.2.1 (A.len .mono (A.fL .poly 0 .mono x4.2.2.2.1)))
(A.cond (A.cmp .lss x4.2.2.1 (A.len .i64 (A.fL .mono 1 .i64 (A.get .mono (A.fL .poly 0 .mono x4.2.2.2.1) x4.2.1))))
(A.chk (A.cmp .leq (A.lit 0) x4.2.1)
(A.chk (A.cmp .lss x4.2.1 (A.len .mono (A.fL .poly 0 .mono x4.2.2.2.1)))
(A.chk (A.cmp .leq (A.lit 0) x4.2.2.1)
(A.chk (A.cmp .lss x4.2.2.1 (A.len .i64 (A.fL .mono 1 .i64 (A.get .mono (A.fL .poly 0 .mono x4.2.2.2.1) x4.2.1))))
(A.cond (A.cmp .geq (A.fI .i64 0 (A.get .i64 (A.fL .mono 1 .i64 (A.get .mono (A.fL .poly 0 .mono x4.2.2.2.1) x4.2.1)) x4.2.2.1)) x4.1)
(A.letT [.b] ((A.bl false),()) fun x5=>
(A.inr [.i,.i,.i,.x .poly] (A.inr [.i,.i,.x .poly] (A.ret [.b] (x5.1,())))))
(A.letT [.i] ((A.arith .add .i64 x4.2.2.1 (A.lit 1)),()) fun x5=>
(A.inl [.i,.i,.i,.x .poly] (x4.1,x4.2.1,x5.1,x4.2.2.2.1,()))))))))
(A.inr [.i,.i,.i,.x .poly] (A.letT [.i] ((A.arith .add .i64 x4.2.1 (A.lit 1)),()) fun x5=>
(A.inl [.i,.i,.x .poly] (x4.1,x5.1,x4.2.2.2.1,())))))))) (x2.1,x2.2.1,x3.1,x2.2.2.1,())))
(A.inr [.i,.i,.x .poly] (A.letT [.b] ((A.bl true),()) fun x3=>
(A.ret [.b] (x3.1,())))))) (x.2.1,x1.1,x.1,()))))
def F_k115 (A:Alg) (x:Tup A.toCar [.x .atom]):A.M (Tup A.toCar [.b]):=
(A.letT [.b] ((A.bl false),()) fun x0=>
(A.letT [.b] ((A.iteB (A.cmp .eql (A.len .mono (A.fL .atom 2 .mono x.1)) (A.lit 0)) (A.cmp .eql (A.len .mono (A.fL .atom 3 .mono x.1)) (A.lit 0)) (A.bl false)),()) fun x1=>
(A.ret [.b] (x1.1,()))))
def F_k114 (A:Alg) (p_k98:Tup A.toCar [.i,.i,.i]→A.B) (f_k98:Tup A.toCar [.i,.i,.i]→Tup A.toCar [.b]) (p_k87:Tup A.toCar [.x .poly]→A.B) (f_k87:Tup A.toCar [.x .poly]→Tup A.toCar [.b]) (p_k90:Tup A.toCar [.x .poly,.i]→A.B) (f_k90:Tup A.toCar [.x .poly,.i]→Tup A.toCar [.b]) (p_k115:Tup A.toCar [.x .atom]→A.B) (f_k115:Tup A.toCar [.x .atom]→Tup A.toCar [.b]) (x:Tup A.toCar [.x .atom,.i]):A.M (Tup A.toCar [.b]):=
(A.letT [.b] ((A.bl false),()) fun x0=>
(A.letT [.b] ((A.cmp .eql (A.fI .atom 0 x.1) (A.lit 1)),()) fun x1=>
(A.cond x1.1
(A.chk (p_k98 ((A.fI .atom 1 x.1),(A.lit 0),(A.lit 3),()))
(A.letT [.b] ((f_k98 ((A.fI .atom 1 x.1),(A.lit 0),(A.lit 3),())).1,()) fun x2=>
(A.chk (A.orB (A.notB x2.1) (p_k115 (x.1,())))
(A.letT [.b] ((f_k115 (x.1,())).1,()) fun x3=>
(A.letT [.b] ((A.iteB x2.1 x3.1 (A.bl false)),()) fun x4=>
(A.ret [.b] (x4.1,())))))))
(A.letT [.b] ((A.cmp .eql (A.fI .atom 0 x.1) (A.lit 2)),()) fun x2=>
(A.bind [.i,.i,.b,.x .atom]
(A.cond x2.1
(A.ret [.i,.i,.b,.x .atom] (x.2.1,(A.fI .atom 0 x.1),x2.1,x.1,()))
(A.letT [.b] ((A.cmp .eql (A.fI .atom 0 x.1) (A.lit 3)),()) fun x3=>
(A.ret [.i,.i,.b,.x .atom] (x.2.1,(A.fI .atom 0 x.1),x3.1,x.1,()))))
fun x3=>
(A.cond x3.2.2.1
(A.chk (p_k98 ((A.fI .atom 1 x3.2.2.2.1),(A.lit 0),(A.lit 199),()))
(A.letT [.b] ((f_k98 ((A.fI .atom 1 x3.2.2.2.1),(A.lit 0),(A.lit 199),())).1,()) fun x4=>
(A.chk (A.orB (A.notB x4.1) (p_k115 (x3.2.2.2.1,())))
(A.letT [.b] ((f_k115 (x3.2.2.2.1,())).1,()) fun x5=>
(A.letT [.b] ((A.iteB x4.1 x5.1 (A.bl false)),()) fun x6=>
(A.ret [.b] (x6.1,())))))))
(A.letT [.b] ((A.cmp .eql x3.2.1 (A.lit 4)),()) fun x4=>
(A.cond x4.1
(A.chk (p_k98 ((A.fI .atom 1 x3.2.2.2.1),(A.lit 1),(A.lit 5),()))
(A.letT [.b] ((f_k98 ((A.fI .atom 1 x3.2.2.2.1),(A.lit 1),(A.lit 5),())).1,()) fun x5=>
(A.chk (A.orB (A.notB x5.1) (p_k87 ((A.mkX .poly ((A.fL .atom 2 .mono x3.2.2.2.1),())),())))
(A.letT [.b] ((f_k87 ((A.mkX .poly ((A.fL .atom 2 .mono x3.2.2.2.1),())),())).1,()) fun x6=>
(A.chk (A.orB (A.notB (A.iteB x5.1 x6.1 (A.bl false))) (p_k87 ((A.mkX .poly ((A.fL .atom 3 .mono x3.2.2.2.1),())),())))
(A.letT [.b] ((f_k87 ((A.mkX .poly ((A.fL .atom 3 .mono x3.2.2.2.1),())),())).1,()) fun x7=>
(A.chk (A.orB (A.notB (A.iteB (A.iteB x5.1 x6.1 (A.bl false)) x7.1 (A.bl false))) (p_k90 ((A.mkX .poly ((A.fL .atom 2 .mono x3.2.2.2.1),())),x3.1,())))
(A.letT [.b] ((f_k90 ((A.mkX .poly ((A.fL .atom 2 .mono x3.2.2.2.1),())),x3.1,())).1,()) fun x8=>
(A.chk (A.orB (A.notB (A.iteB (A.iteB (A.iteB x5.1 x6.1 (A.bl false)) x7.1 (A.bl false)) x8.1 (A.bl false))) (p_k90 ((A.mkX .poly ((A.fL .atom 3 .mono x3.2.2.2.1),())),x3.1,())))
(A.letT [.b] ((f_k90 ((A.mkX .poly ((A.fL .atom 3 .mono x3.2.2.2.1),())),x3.1,())).1,()) fun x9=>
(A.letT [.b] ((A.iteB (A.iteB (A.iteB (A.iteB x5.1 x6.1 (A.bl false)) x7.1 (A.bl false)) x8.1 (A.bl false)) x9.1 (A.bl false)),()) fun x10=>
(A.ret [.b] (x10.1,())))))))))))))
(A.letT [.b] ((A.bl false),()) fun x5=>
(A.ret [.b] (x5.1,())))))))))))
def F_k88 (A:Alg) (p_k112:Tup A.toCar [.l .i64,.l .i64]→A.B) (f_k112:Tup A.toCar [.l .i64,.l .i64]→Tup A.toCar [.i]) (x:Tup A.toCar [.x .poly,.x .poly]):A.M (Tup A.toCar [.i]):=
(A.letT [.i] ((A.lit 0),()) fun x0=>
(A.cond (A.cmp .neq (A.len .mono (A.fL .poly 0 .mono x.1)) (A.len .mono (A.fL .poly 0 .mono x.2.1)))
(A.cond (A.cmp .lss (A.len .mono (A.fL .poly 0 .mono x.1)) (A.len .mono (A.fL .poly 0 .mono x.2.1)))
(A.letT [.i] ((A.lit (-1)),()) fun x1=>
(A.ret [.i] (x1.1,())))
(A.letT [.i] ((A.lit 1),()) fun x1=>
(A.ret [.i] (x1.1,()))))
(A.letT [.i] ((A.lit 0),()) fun x1=>
(A.iter [.i,.x .poly,.x .poly] (fun x2=>
(A.cond (A.cmp .lss x2.1 (A.len .mono (A.fL .poly 0 .mono x2.2.1)))
(A.chk (A.cmp .leq (A.lit 0) x2.1)
(A.chk (A.cmp .lss x2.1 (A.len .mono (A.fL .poly 0 .mono x2.2.1)))
(A.chk (A.cmp .leq (A.lit 0) x2.1)
(A.chk (A.cmp .lss x2.1 (A.len .mono (A.fL .poly 0 .mono x2.2.2.1)))
(A.chk (p_k112 ((A.fL .mono 1 .i64 (A.get .mono (A.fL .poly 0 .mono x2.2.1) x2.1)),(A.fL .mono 1 .i64 (A.get .mono (A.fL .poly 0 .mono x2.2.2.1) x2.1)),()))
(A.letT [.i] ((f_k112 ((A.fL .mono 1 .i64 (A.get .mono (A.fL .poly 0 .mono x2.2.1) x2.1)),(A.fL .mono 1 .i64 (A.get .mono (A.fL .poly 0 .mono x2.2.2.1) x2.1)),())).1,()) fun x3=>
(A.letT [.i] (x3.1,()) fun x4=>
(A.cond (A.cmp .neq x4.1 (A.lit 0))
(A.letT [.i] (x4.1,()) fun x5=>
(A.inr [.i,.x .poly,.x .poly] (A.ret [.i] (x5.1,()))))
(A.chk (A.cmp .leq (A.lit 0) x2.1)
(A.chk (A.cmp .lss x2.1 (A.len .mono (A.fL .poly 0 .mono x2.2.1)))
(A.chk (A.cmp .leq (A.lit 0) x2.1)
(A.chk (A.cmp .lss x2.1 (A.len .mono (A.fL .poly 0 .mono x2.2.2.1)))
(A.cond (A.cmp .neq (A.fI .mono 0 (A.get .mono (A.fL .poly 0 .mono x2.2.1) x2.1)) (A.fI .mono 0 (A.get .mono (A.fL .poly 0 .mono x2.2.2.1) x2.1)))
(A.chk (A.cmp .leq (A.lit 0) x2.1)
(A.chk (A.cmp .lss x2.1 (A.len .mono (A.fL .poly 0 .mono x2.2.1)))
(A.chk (A.cmp .leq (A.lit 0) x2.1)
(A.chk (A.cmp .lss x2.1 (A.len .mono (A.fL .poly 0 .mono x2.2.2.1)))
(A.cond (A.cmp .lss (A.fI .mono 0 (A.get .mono (A.fL .poly 0 .mono x2.2.1) x2.1)) (A.fI .mono 0 (A.get .mono (A.fL .poly 0 .mono x2.2.2.1) x2.1)))
(A.letT [.i] ((A.lit (-1)),()) fun x5=>
(A.inr [.i,.x .poly,.x .poly] (A.ret [.i] (x5.1,()))))
(A.letT [.i] ((A.lit 1),()) fun x5=>
(A.inr [.i,.x .poly,.x .poly] (A.ret [.i] (x5.1,())))))))))
(A.letT [.i] ((A.arith .add .i64 x2.1 (A.lit 1)),()) fun x5=>
(A.inl [.i,.x .poly,.x .poly] (x5.1,x2.2.1,x2.2.2.1,()))))))))))))))))
(A.inr [.i,.x .poly,.x .poly] (A.letT [.i] ((A.lit 0),()) fun x3=>
(A.ret [.i] (x3.1,())))))) (x1.1,x.1,x.2.1,())))))
def F_k122 (A:Alg) (p_k88:Tup A.toCar [.x .poly,.x .poly]→A.B) (f_k88:Tup A.toCar [.x .poly,.x .poly]→Tup A.toCar [.i]) (x:Tup A.toCar [.x .atom,.x .atom]):A.M (Tup A.toCar [.b]):=
(A.letT [.b] ((A.bl false),()) fun x0=>
(A.chk (A.orB (A.notB (A.iteB (A.cmp .eql (A.fI .atom 0 x.1) (A.fI .atom 0 x.2.1)) (A.cmp .eql (A.fI .atom 1 x.1) (A.fI .atom 1 x.2.1)) (A.bl false))) (p_k88 ((A.mkX .poly ((A.fL .atom 2 .mono x.1),())),(A.mkX .poly ((A.fL .atom 2 .mono x.2.1),())),())))
(A.letT [.i] ((f_k88 ((A.mkX .poly ((A.fL .atom 2 .mono x.1),())),(A.mkX .poly ((A.fL .atom 2 .mono x.2.1),())),())).1,()) fun x1=>
(A.chk (A.orB (A.notB (A.iteB (A.iteB (A.cmp .eql (A.fI .atom 0 x.1) (A.fI .atom 0 x.2.1)) (A.cmp .eql (A.fI .atom 1 x.1) (A.fI .atom 1 x.2.1)) (A.bl false)) (A.cmp .eql x1.1 (A.lit 0)) (A.bl false))) (p_k88 ((A.mkX .poly ((A.fL .atom 3 .mono x.1),())),(A.mkX .poly ((A.fL .atom 3 .mono x.2.1),())),())))
(A.letT [.i] ((f_k88 ((A.mkX .poly ((A.fL .atom 3 .mono x.1),())),(A.mkX .poly ((A.fL .atom 3 .mono x.2.1),())),())).1,()) fun x2=>
(A.letT [.b] ((A.iteB (A.iteB (A.iteB (A.cmp .eql (A.fI .atom 0 x.1) (A.fI .atom 0 x.2.1)) (A.cmp .eql (A.fI .atom 1 x.1) (A.fI .atom 1 x.2.1)) (A.bl false)) (A.cmp .eql x1.1 (A.lit 0)) (A.bl false)) (A.cmp .eql x2.1 (A.lit 0)) (A.bl false)),()) fun x3=>
(A.ret [.b] (x3.1,()))))))))
def F_k93 (A:Alg) (p_k114:Tup A.toCar [.x .atom,.i]→A.B) (f_k114:Tup A.toCar [.x .atom,.i]→Tup A.toCar [.b]) (p_k122:Tup A.toCar [.x .atom,.x .atom]→A.B) (f_k122:Tup A.toCar [.x .atom,.x .atom]→Tup A.toCar [.b]) (x:Tup A.toCar [.x .tab]):A.M (Tup A.toCar [.b]):=
(A.letT [.b] ((A.bl false),()) fun x0=>
(A.cond (A.cmp .gtr (A.len .atom (A.fL .tab 0 .atom x.1)) (A.lit 200))
(A.letT [.b] ((A.bl false),()) fun x1=>
(A.ret [.b] (x1.1,())))
(A.letT [.i] ((A.lit 0),()) fun x1=>
(A.iter [.i,.x .tab] (fun x2=>
(A.cond (A.cmp .lss x2.1 (A.len .atom (A.fL .tab 0 .atom x2.2.1)))
(A.chk (A.cmp .leq (A.lit 0) x2.1)
(A.chk (A.cmp .lss x2.1 (A.len .atom (A.fL .tab 0 .atom x2.2.1)))
(A.chk (p_k114 ((A.get .atom (A.fL .tab 0 .atom x2.2.1) x2.1),x2.1,()))
(A.letT [.b] ((f_k114 ((A.get .atom (A.fL .tab 0 .atom x2.2.1) x2.1),x2.1,())).1,()) fun x3=>
(A.cond (A.notB x3.1)
(A.letT [.b] ((A.bl false),()) fun x4=>
(A.inr [.i,.x .tab] (A.ret [.b] (x4.1,()))))
(A.letT [.i] ((A.lit 0),()) fun x4=>
(A.iter [.i,.i,.x .tab] (fun x5=>
(A.cond (A.cmp .lss x5.2.1 x5.1)
(A.chk (A.cmp .leq (A.lit 0) x5.2.1)
(A.chk (A.cmp .lss x5.2.1 (A.len .atom (A.fL .tab 0 .atom x5.2.2.1)))
(A.chk (A.cmp .leq (A.lit 0) x5.1)
(A.chk (A.cmp .lss x5.1 (A.len .atom (A.fL .tab 0 .atom x5.2.2.1)))
(A.chk (p_k122 ((A.get .atom (A.fL .tab 0 .atom x5.2.2.1) x5.2.1),(A.get .atom (A.fL .tab 0 .atom x5.2.2.1) x5.1),()))
(A.letT [.b] ((f_k122 ((A.get .atom (A.fL .tab 0 .atom x5.2.2.1) x5.2.1),(A.get .atom (A.fL .tab 0 .atom x5.2.2.1) x5.1),())).1,()) fun x6=>
(A.cond x6.1
(A.letT [.b] ((A.bl false),()) fun x7=>
(A.inr [.i,.i,.x .tab] (A.inr [.i,.x .tab] (A.ret [.b] (x7.1,())))))
(A.letT [.i] ((A.arith .add .i64 x5.2.1 (A.lit 1)),()) fun x7=>
(A.inl [.i,.i,.x .tab] (x5.1,x7.1,x5.2.2.1,()))))))))))
(A.inr [.i,.i,.x .tab] (A.letT [.i] ((A.arith .add .i64 x5.1 (A.lit 1)),()) fun x6=>
(A.inl [.i,.x .tab] (x6.1,x5.2.2.1,())))))) (x2.1,x4.1,x2.2.1,()))))))))
(A.inr [.i,.x .tab] (A.letT [.b] ((A.bl true),()) fun x3=>
(A.ret [.b] (x3.1,())))))) (x1.1,x.1,())))))
def F_k123 (A:Alg) (p_k87:Tup A.toCar [.x .poly]→A.B) (f_k87:Tup A.toCar [.x .poly]→Tup A.toCar [.b]) (p_k90:Tup A.toCar [.x .poly,.i]→A.B) (f_k90:Tup A.toCar [.x .poly,.i]→Tup A.toCar [.b]) (x:Tup A.toCar [.x .poly,.x .poly,.i]):A.M (Tup A.toCar [.b]):=
(A.letT [.b] ((A.bl false),()) fun x0=>
(A.chk (p_k87 (x.1,()))
(A.letT [.b] ((f_k87 (x.1,())).1,()) fun x1=>
(A.chk (A.orB (A.notB x1.1) (p_k87 (x.2.1,())))
(A.letT [.b] ((f_k87 (x.2.1,())).1,()) fun x2=>
(A.chk (A.orB (A.notB (A.iteB x1.1 x2.1 (A.bl false))) (p_k90 (x.1,x.2.2.1,())))
(A.letT [.b] ((f_k90 (x.1,x.2.2.1,())).1,()) fun x3=>
(A.chk (A.orB (A.notB (A.iteB (A.iteB x1.1 x2.1 (A.bl false)) x3.1 (A.bl false))) (p_k90 (x.2.1,x.2.2.1,())))
(A.letT [.b] ((f_k90 (x.2.1,x.2.2.1,())).1,()) fun x4=>
(A.letT [.b] ((A.iteB (A.iteB (A.iteB x1.1 x2.1 (A.bl false)) x3.1 (A.bl false)) x4.1 (A.bl false)),()) fun x5=>
(A.ret [.b] (x5.1,()))))))))))))
def F_k97 (A:Alg) (x:Tup A.toCar [.i]):A.M (Tup A.toCar [.i]):=
(A.letT [.i] ((A.lit 0),()) fun x0=>
(A.chk (A.cmp .neq (A.lit 65536) (A.lit 0))
(A.letT [.i] ((A.arith .rem .i64 x.1 (A.lit 65536)),()) fun x1=>
(A.bind [.i]
(A.cond (A.cmp .lss x1.1 (A.lit 0))
(A.letT [.i] ((A.arith .add .i64 x1.1 (A.lit 65536)),()) fun x2=>
(A.ret [.i] (x2.1,())))
(A.ret [.i] (x1.1,())))
fun x2=>
(A.letT [.i] (x2.1,()) fun x3=>
(A.ret [.i] (x3.1,())))))))
def F_k113 (A:Alg) (p_k112:Tup A.toCar [.l .i64,.l .i64]→A.B) (f_k112:Tup A.toCar [.l .i64,.l .i64]→Tup A.toCar [.i]) (p_k97:Tup A.toCar [.i]→A.B) (f_k97:Tup A.toCar [.i]→Tup A.toCar [.i]) (x:Tup A.toCar [.l .mono,.x .mono]):A.M (Tup A.toCar [.l .mono]):=
(A.letT [.l .mono] ((A.lst .mono []),()) fun x0=>
(A.letT [.b] ((A.bl false),()) fun x1=>
(A.letT [.i] ((A.lit 0),()) fun x2=>
(A.iter [.l .mono,.b,.i,.x .mono,.l .mono] (fun x3=>
(A.cond (A.cmp .lss x3.2.2.1 (A.len .mono x3.1))
(A.chk (A.cmp .leq (A.lit 0) x3.2.2.1)
(A.chk (A.cmp .lss x3.2.2.1 (A.len .mono x3.1))
(A.chk (p_k112 ((A.fL .mono 1 .i64 x3.2.2.2.1),(A.fL .mono 1 .i64 (A.get .mono x3.1 x3.2.2.1)),()))
(A.letT [.i] ((f_k112 ((A.fL .mono 1 .i64 x3.2.2.2.1),(A.fL .mono 1 .i64 (A.get .mono x3.1 x3.2.2.1)),())).1,()) fun x4=>
(A.letT [.i] (x4.1,()) fun x5=>
(A.bind [.l .mono,.b,.i,.i,.x .mono,.l .mono]
(A.cond (A.iteB (A.notB x3.2.1) (A.cmp .lss x5.1 (A.lit 0)) (A.bl false))
(A.letT [.l .mono] ((A.lst .mono [x3.2.2.2.1]),()) fun x6=>
(A.chk (A.cmp .leq (A.addN (A.len .mono x3.2.2.2.2.1) (A.len .mono x6.1)) (A.lit 1073741824))
(A.letT [.l .mono] ((A.app .mono x3.2.2.2.2.1 x6.1),()) fun x7=>
(A.letT [.b] ((A.bl true),()) fun x8=>
(A.ret [.l .mono,.b,.i,.i,.x .mono,.l .mono] (x3.1,x8.1,x3.2.2.1,x5.1,x3.2.2.2.1,x7.1,()))))))
(A.ret [.l .mono,.b,.i,.i,.x .mono,.l .mono] (x3.1,x3.2.1,x3.2.2.1,x5.1,x3.2.2.2.1,x3.2.2.2.2.1,())))
fun x6=>
(A.bind [.l .mono,.b,.i,.x .mono,.l .mono]
(A.cond (A.cmp .eql x6.2.2.2.1 (A.lit 0))
(A.letT [.b] ((A.bl true),()) fun x7=>
(A.chk (A.cmp .leq (A.lit 0) x6.2.2.1)
(A.chk (A.cmp .lss x6.2.2.1 (A.len .mono x6.1))
(A.chk (p_k97 ((A.arith .add .i64 (A.fI .mono 0 (A.get .mono x6.1 x6.2.2.1)) (A.fI .mono 0 x6.2.2.2.2.1)),()))
(A.letT [.i] ((f_k97 ((A.arith .add .i64 (A.fI .mono 0 (A.get .mono x6.1 x6.2.2.1)) (A.fI .mono 0 x6.2.2.2.2.1)),())).1,()) fun x8=>
(A.letT [.i] (x8.1,()) fun x9=>
(A.bind [.l .mono,.b,.i,.x .mono,.l .mono]
(A.cond (A.cmp .gtr x9.1 (A.lit 0))
(A.chk (A.cmp .leq (A.lit 0) x6.2.2.1)
(A.chk (A.cmp .lss x6.2.2.1 (A.len .mono x6.1))
(A.letT [.l .mono] ((A.lst .mono [(A.mkX .mono (x9.1,(A.fL .mono 1 .i64 (A.get .mono x6.1 x6.2.2.1)),()))]),()) fun x10=>
(A.chk (A.cmp .leq (A.addN (A.len .mono x6.2.2.2.2.2.1) (A.len .mono x10.1)) (A.lit 1073741824))
(A.letT [.l .mono] ((A.app .mono x6.2.2.2.2.2.1 x10.1),()) fun x11=>
(A.ret [.l .mono,.b,.i,.x .mono,.l .mono] (x6.1,x7.1,x6.2.2.1,x6.2.2.2.2.1,x11.1,())))))))
(A.ret [.l .mono,.b,.i,.x .mono,.l .mono] (x6.1,x7.1,x6.2.2.1,x6.2.2.2.2.1,x6.2.2.2.2.2.1,())))
fun x10=>
(A.ret [.l .mono,.b,.i,.x .mono,.l .mono] (x10.1,x10.2.1,x10.2.2.1,x10.2.2.2.1,x10.2.2.2.2.1,())))))))))
(A.chk (A.cmp .leq (A.lit 0) x6.2.2.1)
(A.chk (A.cmp .lss x6.2.2.1 (A.len .mono x6.1))
(A.letT [.l .mono] ((A.lst .mono [(A.get .mono x6.1 x6.2.2.1)]),()) fun x7=>
(A.chk (A.cmp .leq (A.addN (A.len .mono x6.2.2.2.2.2.1) (A.len .mono x7.1)) (A.lit 1073741824))
(A.letT [.l .mono] ((A.app .mono x6.2.2.2.2.2.1 x7.1),()) fun x8=>
(A.ret [.l .mono,.b,.i,.x .mono,.l .mono] (x6.1,x6.2.1,x6.2.2.1,x6.2.2.2.2.1,x8.1,()))))))))
fun x7=>
(A.letT [.i] ((A.arith .add .i64 x7.2.2.1 (A.lit 1)),()) fun x8=>
(A.inl [.l .mono,.b,.i,.x .mono,.l .mono] (x7.1,x7.2.1,x8.1,x7.2.2.2.1,x7.2.2.2.2.1,()))))))))))
(A.inr [.l .mono,.b,.i,.x .mono,.l .mono] (A.bind [.l .mono]
(A.cond (A.notB x3.2.1)
(A.letT [.l .mono] ((A.lst .mono [x3.2.2.2.1]),()) fun x4=>
(A.chk (A.cmp .leq (A.addN (A.len .mono x3.2.2.2.2.1) (A.len .mono x4.1)) (A.lit 1073741824))
(A.letT [.l .mono] ((A.app .mono x3.2.2.2.2.1 x4.1),()) fun x5=>
(A.ret [.l .mono] (x5.1,())))))
(A.ret [.l .mono] (x3.2.2.2.2.1,())))
fun x4=>
(A.ret [.l .mono] (x4.1,())))))) (x.1,x1.1,x2.1,x.2.1,x0.1,())))))
def F_k110 (A:Alg) (x:Tup A.toCar [.l .i64,.l .i64]):A.M (Tup A.toCar [.l .i64]):=
(A.letT [.l .i64] ((A.lst .i64 []),()) fun x0=>
(A.letT [.i] ((A.lit 0),()) fun x1=>
(A.letT [.i] ((A.lit 0),()) fun x2=>
(A.iter [.l .i64,.l .i64,.i,.i,.l .i64] (fun x3=>
(A.cond (A.cmp .lss x3.2.2.2.1 (A.len .i64 x3.2.1))
(A.iter [.l .i64,.l .i64,.i,.i,.l .i64] (fun x4=>
(A.chk (A.orB (A.notB (A.cmp .lss x4.2.2.1 (A.len .i64 x4.1))) (A.cmp .leq (A.lit 0) x4.2.2.1))
(A.chk (A.orB (A.notB (A.cmp .lss x4.2.2.1 (A.len .i64 x4.1))) (A.cmp .lss x4.2.2.1 (A.len .i64 x4.1)))
(A.chk (A.orB (A.notB (A.cmp .lss x4.2.2.1 (A.len .i64 x4.1))) (A.cmp .leq (A.lit 0) x4.2.2.2.1))
(A.chk (A.orB (A.notB (A.cmp .lss x4.2.2.1 (A.len .i64 x4.1))) (A.cmp .lss x4.2.2.2.1 (A.len .i64 x4.2.1)))
(A.cond (A.iteB (A.cmp .lss x4.2.2.1 (A.len .i64 x4.1)) (A.cmp .leq (A.fI .i64 0 (A.get .i64 x4.1 x4.2.2.1)) (A.fI .i64 0 (A.get .i64 x4.2.1 x4.2.2.2.1))) (A.bl false))
(A.chk (A.cmp .leq (A.lit 0) x4.2.2.1)
(A.chk (A.cmp .lss x4.2.2.1 (A.len .i64 x4.1))
(A.letT [.l .i64] ((A.lst .i64 [(A.mkX .i64 ((A.fI .i64 0 (A.get .i64 x4.1 x4.2.2.1)),()))]),()) fun x5=>
(A.chk (A.cmp .leq (A.addN (A.len .i64 x4.2.2.2.2.1) (A.len .i64 x5.1)) (A.lit 1073741824))
(A.letT [.l .i64] ((A.app .i64 x4.2.2.2.2.1 x5.1),()) fun x6=>
(A.letT [.i] ((A.arith .add .i64 x4.2.2.1 (A.lit 1)),()) fun x7=>
(A.inl [.l .i64,.l .i64,.i,.i,.l .i64] (x4.1,x4.2.1,x7.1,x4.2.2.2.1,x6.1,()))))))))
(A.inr [.l .i64,.l .i64,.i,.i,.l .i64] (A.chk (A.cmp .leq (A.lit 0) x4.2.2.2.1)
(A.chk (A.cmp .lss x4.2.2.2.1 (A.len .i64 x4.2.1))
(A.letT [.l .i64] ((A.lst .i64 [(A.mkX .i64 ((A.fI .i64 0 (A.get .i64 x4.2.1 x4.2.2.2.1)),()))]),()) fun x5=>
(A.chk (A.cmp .leq (A.addN (A.len .i64 x4.2.2.2.2.1) (A.len .i64 x5.1)) (A.lit 1073741824))
(A.letT [.l .i64] ((A.app .i64 x4.2.2.2.2.1 x5.1),()) fun x6=>
(A.letT [.i] ((A.arith .add .i64 x4.2.2.2.1 (A.lit 1)),()) fun x7=>
(A.inl [.l .i64,.l .i64,.i,.i,.l .i64] (x4.1,x4.2.1,x4.2.2.1,x7.1,x6.1,()))))))))))))))) (x3.1,x3.2.1,x3.2.2.1,x3.2.2.2.1,x3.2.2.2.2.1,()))
(A.inr [.l .i64,.l .i64,.i,.i,.l .i64] (A.chk (A.cmp .leq (A.lit 0) x3.2.2.1)
(A.chk (A.cmp .leq x3.2.2.1 (A.len .i64 x3.1))
(A.chk (A.cmp .leq (A.len .i64 x3.1) (A.len .i64 x3.1))
(A.chk (A.cmp .leq (A.addN (A.len .i64 x3.2.2.2.2.1) (A.len .i64 (A.sub .i64 x3.1 x3.2.2.1 (A.len .i64 x3.1)))) (A.lit 1073741824))
(A.letT [.l .i64] ((A.app .i64 x3.2.2.2.2.1 (A.sub .i64 x3.1 x3.2.2.1 (A.len .i64 x3.1))),()) fun x4=>
(A.ret [.l .i64] (x4.1,())))))))))) (x.1,x.2.1,x1.1,x2.1,x0.1,())))))
def F_k108 (A:Alg) (x:Tup A.toCar [.l .mono]):A.M (Tup A.toCar [.l .mono]):=
(A.letT [.i] ((A.lit 0),()) fun x0=>
(A.iter [.l .mono,.i,.l .mono] (fun x1=>
(A.cond (A.cmp .lss x1.2.1 (A.len .mono x1.1))
(A.chk (A.cmp .leq (A.lit 0) x1.2.1)
(A.chk (A.cmp .lss x1.2.1 (A.len .mono x1.1))
(A.chk (A.cmp .leq (A.lit 0) x1.2.1)
(A.chk (A.cmp .lss x1.2.1 (A.len .mono x1.1))
(A.chk (A.orB (A.cmp .lss (A.lit 0) (A.len .i64 (A.fL .mono 1 .i64 (A.get .mono x1.1 x1.2.1)))) (A.cmp .eql (A.len .i64 (A.lst .i64 [])) (A.lit 0)))
(A.chk (A.cmp .leq (A.addN (A.len .i64 (A.lst .i64 [])) (A.len .i64 (A.fL .mono 1 .i64 (A.get .mono x1.1 x1.2.1)))) (A.lit 1073741824))
(A.letT [.l .i64] ((A.app .i64 (A.lst .i64 []) (A.fL .mono 1 .i64 (A.get .mono x1.1 x1.2.1))),()) fun x2=>
(A.letT [.l .mono] ((A.lst .mono [(A.mkX .mono ((A.fI .mono 0 (A.get .mono x1.1 x1.2.1)),x2.1,()))]),()) fun x3=>
(A.chk (A.cmp .leq (A.addN (A.len .mono x1.2.2.1) (A.len .mono x3.1)) (A.lit 1073741824))
(A.letT [.l .mono] ((A.app .mono x1.2.2.1 x3.1),()) fun x4=>
(A.letT [.i] ((A.arith .add .i64 x1.2.1 (A.lit 1)),()) fun x5=>
(A.inl [.l .mono,.i,.l .mono] (x1.1,x5.1,x4.1,())))))))))))))
(A.inr [.l .mono,.i,.l .mono] (A.ret [.l .mono] (x1.2.2.1,()))))) (x.1,x0.1,(A.nilL .mono),())))
def F_k109 (A:Alg) (p_k108:Tup A.toCar [.l .mono]→A.B) (f_k108:Tup A.toCar [.l .mono]→Tup A.toCar [.l .mono]) (x:Tup A.toCar [.l .mono]):A.M (Tup A.toCar [.b,.l .mono]):=
(A.letT [.b] ((A.bl false),()) fun x0=>
(A.cond (A.cmp .gtr (A.len .mono x.1) (A.lit 12))
(A.letT [.b] ((A.bl false),()) fun x1=>
(A.ret [.b,.l .mono] (x1.1,(A.nilL .mono),())))
(A.letT [.i] ((A.lit 0),()) fun x1=>
(A.iter [.l .mono,.i] (fun x2=>
(A.cond (A.cmp .lss x2.2.1 (A.len .mono x2.1))
(A.chk (A.cmp .leq (A.lit 0) x2.2.1)
(A.chk (A.cmp .lss x2.2.1 (A.len .mono x2.1))
(A.cond (A.cmp .gtr (A.len .i64 (A.fL .mono 1 .i64 (A.get .mono x2.1 x2.2.1))) (A.lit 4))
(A.letT [.b] ((A.bl false),()) fun x3=>
(A.inr [.l .mono,.i] (A.ret [.b,.l .mono] (x3.1,(A.nilL .mono),()))))
(A.letT [.i] ((A.arith .add .i64 x2.2.1 (A.lit 1)),()) fun x3=>
(A.inl [.l .mono,.i] (x2.1,x3.1,()))))))
(A.inr [.l .mono,.i] (A.chk (p_k108 (x2.1,()))
(A.letT [.l .mono] ((f_k108 (x2.1,())).1,()) fun x3=>
(A.letT [.b] ((A.bl true),()) fun x4=>
(A.ret [.b,.l .mono] (x4.1,x3.1,())))))))) (x.1,x1.1,())))))
def F_k85 (A:Alg) (p_k87:Tup A.toCar [.x .poly]→A.B) (f_k87:Tup A.toCar [.x .poly]→Tup A.toCar [.b]) (p_k97:Tup A.toCar [.i]→A.B) (f_k97:Tup A.toCar [.i]→Tup A.toCar [.i]) (p_k113:Tup A.toCar [.l .mono,.x .mono]→A.B) (f_k113:Tup A.toCar [.l .mono,.x .mono]→Tup A.toCar [.l .mono]) (p_k110:Tup A.toCar [.l .i64,.l .i64]→A.B) (f_k110:Tup A.toCar [.l .i64,.l .i64]→Tup A.toCar [.l .i64]) (p_k109:Tup A.toCar [.l .mono]→A.B) (f_k109:Tup A.toCar [.l .mono]→Tup A.toCar [.b,.l .mono]) (x:Tup A.toCar [.x .poly,.x .poly]):A.M (Tup A.toCar [.b,.l .mono]):=
(A.letT [.b] ((A.bl false),()) fun x0=>
(A.chk (p_k87 (x.1,()))
(A.letT [.b] ((f_k87 (x.1,())).1,()) fun x1=>
(A.chk (A.orB (A.notB (A.notB (A.notB x1.1))) (p_k87 (x.2.1,())))
(A.letT [.b] ((f_k87 (x.2.1,())).1,()) fun x2=>
(A.cond (A.iteB (A.notB x1.1) (A.bl true) (A.notB x2.1))
(A.letT [.b] ((A.bl false),()) fun x3=>
(A.ret [.b,.l .mono] (x3.1,(A.nilL .mono),())))
(A.letT [.l .mono] ((A.lst .mono []),()) fun x3=>
(A.letT [.i] ((A.lit 0),()) fun x4=>
(A.iter [.i,.x .poly,.x .poly,.l .mono] (fun x5=>
(A.cond (A.cmp .lss x5.1 (A.len .mono (A.fL .poly 0 .mono x5.2.1)))
(A.letT [.i] ((A.lit 0),()) fun x6=>
(A.iter [.i,.i,.x .poly,.x .poly,.l .mono] (fun x7=>
(A.cond (A.cmp .lss x7.2.1 (A.len .mono (A.fL .poly 0 .mono x7.2.2.2.1)))
(A.chk (A.cmp .leq (A.lit 0) x7.1)
(A.chk (A.cmp .lss x7.1 (A.len .mono (A.fL .poly 0 .mono x7.2.2.1)))
(A.chk (A.cmp .leq (A.lit 0) x7.2.1)
(A.chk (A.cmp .lss x7.2.1 (A.len .mono (A.fL .poly 0 .mono x7.2.2.2.1)))
(A.chk (p_k97 ((A.arith .mul .i64 (A.fI .mono 0 (A.get .mono (A.fL .poly 0 .mono x7.2.2.1) x7.1)) (A.fI .mono 0 (A.get .mono (A.fL .poly 0 .mono x7.2.2.2.1) x7.2.1))),()))
(A.letT [.i] ((f_k97 ((A.arith .mul .i64 (A.fI .mono 0 (A.get .mono (A.fL .poly 0 .mono x7.2.2.1) x7.1)) (A.fI .mono 0 (A.get .mono (A.fL .poly 0 .mono x7.2.2.2.1) x7.2.1))),())).1,()) fun x8=>
(A.letT [.i] (x8.1,()) fun x9=>
(A.bind [.i,.i,.x .poly,.x .poly,.l .mono]
(A.cond (A.cmp .gtr x9.1 (A.lit 0))
(A.chk (A.cmp .leq (A.lit 0) x7.1)
(A.chk (A.cmp .lss x7.1 (A.len .mono (A.fL .poly 0 .mono x7.2.2.1)))
(A.chk (A.cmp .leq (A.lit 0) x7.2.1)
(A.chk (A.cmp .lss x7.2.1 (A.len .mono (A.fL .poly 0 .mono x7.2.2.2.1)))
(A.chk (p_k110 ((A.fL .mono 1 .i64 (A.get .mono (A.fL .poly 0 .mono x7.2.2.1) x7.1)),(A.fL .mono 1 .i64 (A.get .mono (A.fL .poly 0 .mono x7.2.2.2.1) x7.2.1)),()))
(A.letT [.l .i64] ((f_k110 ((A.fL .mono 1 .i64 (A.get .mono (A.fL .poly 0 .mono x7.2.2.1) x7.1)),(A.fL .mono 1 .i64 (A.get .mono (A.fL .poly 0 .mono x7.2.2.2.1) x7.2.1)),())).1,()) fun x10=>
(A.chk (p_k113 (x7.2.2.2.2.1,(A.mkX .mono (x9.1,x10.1,())),()))
(A.letT [.l .mono] ((f_k113 (x7.2.2.2.2.1,(A.mkX .mono (x9.1,x10.1,())),())).1,()) fun x11=>
(A.ret [.i,.i,.x .poly,.x .poly,.l .mono] (x7.1,x7.2.1,x7.2.2.1,x7.2.2.2.1,x11.1,()))))))))))
(A.ret [.i,.i,.x .poly,.x .poly,.l .mono] (x7.1,x7.2.1,x7.2.2.1,x7.2.2.2.1,x7.2.2.2.2.1,())))
fun x10=>
(A.letT [.i] ((A.arith .add .i64 x10.2.1 (A.lit 1)),()) fun x11=>
(A.inl [.i,.i,.x .poly,.x .poly,.l .mono] (x10.1,x11.1,x10.2.2.1,x10.2.2.2.1,x10.2.2.2.2.1,())))))))))))
(A.inr [.i,.i,.x .poly,.x .poly,.l .mono] (A.letT [.i] ((A.arith .add .i64 x7.1 (A.lit 1)),()) fun x8=>
(A.inl [.i,.x .poly,.x .poly,.l .mono] (x8.1,x7.2.2.1,x7.2.2.2.1,x7.2.2.2.2.1,())))))) (x5.1,x6.1,x5.2.1,x5.2.2.1,x5.2.2.2.1,())))
(A.inr [.i,.x .poly,.x .poly,.l .mono] (A.chk (p_k109 (x5.2.2.2.1,()))
(A.letT [.b,.l .mono] ((f_k109 (x5.2.2.2.1,())).1,(f_k109 (x5.2.2.2.1,())).2.1,()) fun x6=>
(A.letT [.b] (x6.1,()) fun x7=>
(A.ret [.b,.l .mono] (x7.1,x6.2.1,())))))))) (x4.1,x.1,x.2.1,x3.1,()))))))))))
def F_k82 (A:Alg) (p_k87:Tup A.toCar [.x .poly]→A.B) (f_k87:Tup A.toCar [.x .poly]→Tup A.toCar [.b]) (p_k113:Tup A.toCar [.l .mono,.x .mono]→A.B) (f_k113:Tup A.toCar [.l .mono,.x .mono]→Tup A.toCar [.l .mono]) (p_k109:Tup A.toCar [.l .mono]→A.B) (f_k109:Tup A.toCar [.l .mono]→Tup A.toCar [.b,.l .mono]) (x:Tup A.toCar [.x .poly,.x .poly]):A.M (Tup A.toCar [.b,.l .mono]):=
(A.letT [.b] ((A.bl false),()) fun x0=>
(A.chk (p_k87 (x.1,()))
(A.letT [.b] ((f_k87 (x.1,())).1,()) fun x1=>
(A.chk (A.orB (A.notB (A.notB (A.notB x1.1))) (p_k87 (x.2.1,())))
(A.letT [.b] ((f_k87 (x.2.1,())).1,()) fun x2=>
(A.cond (A.iteB (A.notB x1.1) (A.bl true) (A.notB x2.1))
(A.letT [.b] ((A.bl false),()) fun x3=>
(A.ret [.b,.l .mono] (x3.1,(A.nilL .mono),())))
(A.letT [.l .mono] ((A.fL .poly 0 .mono x.1),()) fun x3=>
(A.letT [.i] ((A.lit 0),()) fun x4=>
(A.iter [.l .mono,.i,.x .poly] (fun x5=>
(A.cond (A.cmp .lss x5.2.1 (A.len .mono (A.fL .poly 0 .mono x5.2.2.1)))
(A.chk (A.cmp .leq (A.lit 0) x5.2.1)
(A.chk (A.cmp .lss x5.2.1 (A.len .mono (A.fL .poly 0 .mono x5.2.2.1)))
(A.chk (p_k113 (x5.1,(A.get .mono (A.fL .poly 0 .mono x5.2.2.1) x5.2.1),()))
(A.letT [.l .mono] ((f_k113 (x5.1,(A.get .mono (A.fL .poly 0 .mono x5.2.2.1) x5.2.1),())).1,()) fun x6=>
(A.letT [.i] ((A.arith .add .i64 x5.2.1 (A.lit 1)),()) fun x7=>
(A.inl [.l .mono,.i,.x .poly] (x6.1,x7.1,x5.2.2.1,())))))))
(A.inr [.l .mono,.i,.x .poly] (A.chk (p_k109 (x5.1,()))
(A.letT [.b,.l .mono] ((f_k109 (x5.1,())).1,(f_k109 (x5.1,())).2.1,()) fun x6=>
(A.letT [.b] (x6.1,()) fun x7=>
(A.ret [.b,.l .mono] (x7.1,x6.2.1,())))))))) (x3.1,x4.1,x.2.1,()))))))))))
def F_k96 (A:Alg) (x:Tup A.toCar [.i]):A.M (Tup A.toCar [.b]):=
(A.letT [.b] ((A.bl false),()) fun x0=>
(A.letT [.b] ((A.iteB (A.cmp .geq x.1 (A.lit 0)) (A.cmp .lss x.1 (A.lit 65536)) (A.bl false)),()) fun x1=>
(A.ret [.b] (x1.1,()))))
def F_k89 (A:Alg) (p_k87:Tup A.toCar [.x .poly]→A.B) (f_k87:Tup A.toCar [.x .poly]→Tup A.toCar [.b]) (p_k97:Tup A.toCar [.i]→A.B) (f_k97:Tup A.toCar [.i]→Tup A.toCar [.i]) (p_k108:Tup A.toCar [.l .mono]→A.B) (f_k108:Tup A.toCar [.l .mono]→Tup A.toCar [.l .mono]) (p_k96:Tup A.toCar [.i]→A.B) (f_k96:Tup A.toCar [.i]→Tup A.toCar [.b]) (x:Tup A.toCar [.x .poly,.i]):A.M (Tup A.toCar [.l .mono]):=
(A.chk (p_k87 (x.1,()))
(A.letT [.b] ((f_k87 (x.1,())).1,()) fun x0=>
(A.chk (A.orB (A.notB (A.notB (A.notB x0.1))) (p_k96 (x.2.1,())))
(A.letT [.b] ((f_k96 (x.2.1,())).1,()) fun x1=>
(A.cond (A.iteB (A.notB x0.1) (A.bl true) (A.notB x1.1))
(A.ret [.l .mono] ((A.nilL .mono),()))
(A.letT [.l .mono] ((A.lst .mono []),()) fun x2=>
(A.letT [.i] ((A.lit 0),()) fun x3=>
(A.iter [.i,.i,.x .poly,.l .mono] (fun x4=>
(A.cond (A.cmp .lss x4.2.1 (A.len .mono (A.fL .poly 0 .mono x4.2.2.1)))
(A.chk (A.cmp .leq (A.lit 0) x4.2.1)
(A.chk (A.cmp .lss x4.2.1 (A.len .mono (A.fL .poly 0 .mono x4.2.2.1)))
(A.chk (p_k97 ((A.arith .mul .i64 (A.fI .mono 0 (A.get .mono (A.fL .poly 0 .mono x4.2.2.1) x4.2.1)) x4.1),()))
(A.letT [.i] ((f_k97 ((A.arith .mul .i64 (A.fI .mono 0 (A.get .mono (A.fL .poly 0 .mono x4.2.2.1) x4.2.1)) x4.1),())).1,()) fun x5=>
(A.letT [.i] (x5.1,()) fun x6=>
(A.bind [.i,.i,.x .poly,.l .mono]
(A.cond (A.cmp .gtr x6.1 (A.lit 0))
(A.chk (A.cmp .leq (A.lit 0) x4.2.1)
(A.chk (A.cmp .lss x4.2.1 (A.len .mono (A.fL .poly 0 .mono x4.2.2.1)))
(A.letT [.l .mono] ((A.lst .mono [(A.mkX .mono (x6.1,(A.fL .mono 1 .i64 (A.get .mono (A.fL .poly 0 .mono x4.2.2.1) x4.2.1)),()))]),()) fun x7=>
(A.chk (A.cmp .leq (A.addN (A.len .mono x4.2.2.2.1) (A.len .mono x7.1)) (A.lit 1073741824))
(A.letT [.l .mono] ((A.app .mono x4.2.2.2.1 x7.1),()) fun x8=>
(A.ret [.i,.i,.x .poly,.l .mono] (x4.1,x4.2.1,x4.2.2.1,x8.1,())))))))
(A.ret [.i,.i,.x .poly,.l .mono] (x4.1,x4.2.1,x4.2.2.1,x4.2.2.2.1,())))
fun x7=>
(A.letT [.i] ((A.arith .add .i64 x7.2.1 (A.lit 1)),()) fun x8=>
(A.inl [.i,.i,.x .poly,.l .mono] (x7.1,x8.1,x7.2.2.1,x7.2.2.2.1,())))))))))
(A.inr [.i,.i,.x .poly,.l .mono] (A.chk (p_k108 (x4.2.2.2.1,()))
(A.letT [.l .mono] ((f_k108 (x4.2.2.2.1,())).1,()) fun x5=>
(A.ret [.l .mono] (x5.1,()))))))) (x.2.1,x3.1,x.1,x2.1,())))))))))
def F_k121 (A:Alg) (p_k85:Tup A.toCar [.x .poly,.x .poly]→A.B) (f_k85:Tup A.toCar [.x .poly,.x .poly]→Tup A.toCar [.b,.l .mono]) (p_k82:Tup A.toCar [.x .poly,.x .poly]→A.B) (f_k82:Tup A.toCar [.x .poly,.x .poly]→Tup A.toCar [.b,.l .mono]) (p_k89:Tup A.toCar [.x .poly,.i]→A.B) (f_k89:Tup A.toCar [.x .poly,.i]→Tup A.toCar [.l .mono]) (x:Tup A.toCar [.i,.x .poly,.x .poly]):A.M (Tup A.toCar [.b,.l .mono]):=
(A.letT [.b] ((A.bl false),()) fun x0=>
(A.letT [.b] ((A.cmp .eql x.1 (A.lit 1)),()) fun x1=>
(A.cond x1.1
(A.chk (p_k82 (x.2.1,x.2.2.1,()))
(A.letT [.b,.l .mono] ((f_k82 (x.2.1,x.2.2.1,())).1,(f_k82 (x.2.1,x.2.2.1,())).2.1,()) fun x2=>
(A.letT [.b] (x2.1,()) fun x3=>
(A.ret [.b,.l .mono] (x3.1,x2.2.1,())))))
(A.letT [.b] ((A.cmp .eql x.1 (A.lit 2)),()) fun x2=>
(A.cond x2.1
(A.chk (p_k89 (x.2.2.1,(A.lit 65535),()))
(A.letT [.l .mono] ((f_k89 (x.2.2.1,(A.lit 65535),())).1,()) fun x3=>
(A.chk (p_k82 (x.2.1,(A.mkX .poly (x3.1,())),()))
(A.letT [.b,.l .mono] ((f_k82 (x.2.1,(A.mkX .poly (x3.1,())),())).1,(f_k82 (x.2.1,(A.mkX .poly (x3.1,())),())).2.1,()) fun x4=>
(A.letT [.b] (x4.1,()) fun x5=>
(A.ret [.b,.l .mono] (x5.1,x4.2.1,())))))))
(A.letT [.b] ((A.cmp .eql x.1 (A.lit 3)),()) fun x3=>
(A.cond x3.1
(A.chk (p_k85 (x.2.1,x.2.2.1,()))
(A.letT [.b,.l .mono] ((f_k85 (x.2.1,x.2.2.1,())).1,(f_k85 (x.2.1,x.2.2.1,())).2.1,()) fun x4=>
(A.letT [.b] (x4.1,()) fun x5=>
(A.ret [.b,.l .mono] (x5.1,x4.2.1,())))))
(A.letT [.b] ((A.bl false),()) fun x4=>
(A.ret [.b,.l .mono] (x4.1,(A.nilL .mono),()))))))))))
def F_k95 (A:Alg) (p_k97:Tup A.toCar [.i]→A.B) (f_k97:Tup A.toCar [.i]→Tup A.toCar [.i]) (p_k96:Tup A.toCar [.i]→A.B) (f_k96:Tup A.toCar [.i]→Tup A.toCar [.b]) (x:Tup A.toCar [.i,.i,.i]):A.M (Tup A.toCar [.i]):=
(A.letT [.i] ((A.lit 0),()) fun x0=>
(A.chk (p_k96 (x.2.1,()))
(A.letT [.b] ((f_k96 (x.2.1,())).1,()) fun x1=>
(A.chk (A.orB (A.notB (A.notB (A.notB x1.1))) (p_k96 (x.2.2.1,())))
(A.letT [.b] ((f_k96 (x.2.2.1,())).1,()) fun x2=>
(A.cond (A.iteB (A.notB x1.1) (A.bl true) (A.notB x2.1))
(A.letT [.i] ((A.lit 0),()) fun x3=>
(A.ret [.i] (x3.1,())))
(A.letT [.b] ((A.cmp .eql x.1 (A.lit 1)),()) fun x3=>
(A.cond x3.1
(A.chk (p_k97 ((A.arith .add .i64 x.2.1 x.2.2.1),()))
(A.letT [.i] ((f_k97 ((A.arith .add .i64 x.2.1 x.2.2.1),())).1,()) fun x4=>
(A.letT [.i] (x4.1,()) fun x5=>
(A.ret [.i] (x5.1,())))))
(A.letT [.b] ((A.cmp .eql x.1 (A.lit 2)),()) fun x4=>
(A.cond x4.1
(A.chk (p_k97 ((A.arith .sub .i64 x.2.1 x.2.2.1),()))
(A.letT [.i] ((f_k97 ((A.arith .sub .i64 x.2.1 x.2.2.1),())).1,()) fun x5=>
(A.letT [.i] (x5.1,()) fun x6=>
(A.ret [.i] (x6.1,())))))
(A.letT [.b] ((A.cmp .eql x.1 (A.lit 3)),()) fun x5=>
(A.cond x5.1
(A.chk (p_k97 ((A.arith .mul .i64 x.2.1 x.2.2.1),()))
(A.letT [.i] ((f_k97 ((A.arith .mul .i64 x.2.1 x.2.2.1),())).1,()) fun x6=>
(A.letT [.i] (x6.1,()) fun x7=>
(A.ret [.i] (x7.1,())))))
(A.letT [.b] ((A.cmp .eql x.1 (A.lit 4)),()) fun x6=>
(A.cond x6.1
(A.letT [.i] ((A.arith .and .i64 x.2.1 x.2.2.1),()) fun x7=>
(A.ret [.i] (x7.1,())))
(A.letT [.b] ((A.cmp .eql x.1 (A.lit 5)),()) fun x7=>
(A.cond x7.1
(A.letT [.i] ((A.arith .xor .i64 x.2.1 x.2.2.1),()) fun x8=>
(A.ret [.i] (x8.1,())))
(A.letT [.i] ((A.lit 0),()) fun x8=>
(A.ret [.i] (x8.1,())))))))))))))))))))
def F_k84 (A:Alg) (p_k98:Tup A.toCar [.i,.i,.i]→A.B) (f_k98:Tup A.toCar [.i,.i,.i]→Tup A.toCar [.b]) (x:Tup A.toCar [.i]):A.M (Tup A.toCar [.l .mono]):=
(A.chk (p_k98 (x.1,(A.lit 1),(A.lit 65535),()))
(A.letT [.b] ((f_k98 (x.1,(A.lit 1),(A.lit 65535),())).1,()) fun x0=>
(A.cond (A.notB x0.1)
(A.ret [.l .mono] ((A.nilL .mono),()))
(A.letT [.l .mono] ((A.lst .mono [(A.mkX .mono (x.1,(A.nilL .i64),()))]),()) fun x1=>
(A.ret [.l .mono] (x1.1,()))))))
def F_k86 (A:Alg) (p_k87:Tup A.toCar [.x .poly]→A.B) (f_k87:Tup A.toCar [.x .poly]→Tup A.toCar [.b]) (x:Tup A.toCar [.x .poly]):A.M (Tup A.toCar [.i,.b]):=
(A.letT [.i] ((A.lit 0),()) fun x0=>
(A.letT [.b] ((A.bl false),()) fun x1=>
(A.chk (p_k87 (x.1,()))
(A.letT [.b] ((f_k87 (x.1,())).1,()) fun x2=>
(A.cond (A.notB x2.1)
(A.letT [.i] ((A.lit 0),()) fun x3=>
(A.letT [.b] ((A.bl false),()) fun x4=>
(A.ret [.i,.b] (x3.1,x4.1,()))))
(A.cond (A.cmp .eql (A.len .mono (A.fL .poly 0 .mono x.1)) (A.lit 0))
(A.letT [.i] ((A.lit 0),()) fun x3=>
(A.letT [.b] ((A.bl true),()) fun x4=>
(A.ret [.i,.b] (x3.1,x4.1,()))))
(A.chk (A.orB (A.notB (A.notB (A.cmp .gtr (A.len .mono (A.fL .poly 0 .mono x.1)) (A.lit 1)))) (A.cmp .leq (A.lit 0) (A.lit 0)))
(A.chk (A.orB (A.notB (A.notB (A.cmp .gtr (A.len .mono (A.fL .poly 0 .mono x.1)) (A.lit 1)))) (A.cmp .lss (A.lit 0) (A.len .mono (A.fL .poly 0 .mono x.1))))
(A.cond (A.iteB (A.cmp .gtr (A.len .mono (A.fL .poly 0 .mono x.1)) (A.lit 1)) (A.bl true) (A.cmp .gtr (A.len .i64 (A.fL .mono 1 .i64 (A.get .mono (A.fL .poly 0 .mono x.1) (A.lit 0)))) (A.lit 0)))
(A.letT [.i] ((A.lit 0),()) fun x3=>
(A.letT [.b] ((A.bl false),()) fun x4=>
(A.ret [.i,.b] (x3.1,x4.1,()))))
(A.chk (A.cmp .leq (A.lit 0) (A.lit 0))
(A.chk (A.cmp .lss (A.lit 0) (A.len .mono (A.fL .poly 0 .mono x.1)))
(A.letT [.i] ((A.fI .mono 0 (A.get .mono (A.fL .poly 0 .mono x.1) (A.lit 0))),()) fun x3=>
(A.letT [.b] ((A.bl true),()) fun x4=>
(A.ret [.i,.b] (x3.1,x4.1,())))))))))))))))
def F_k119 (A:Alg) (p_k108:Tup A.toCar [.l .mono]→A.B) (f_k108:Tup A.toCar [.l .mono]→Tup A.toCar [.l .mono]) (x:Tup A.toCar [.i,.i,.x .poly]):A.M (Tup A.toCar [.b,.l .mono]):=
(A.letT [.b] ((A.bl false),()) fun x0=>
(A.cond (A.iteB (A.cmp .eql x.1 (A.lit 4)) (A.cmp .eql x.2.1 (A.lit 0)) (A.bl false))
(A.letT [.b] ((A.bl true),()) fun x1=>
(A.ret [.b,.l .mono] (x1.1,(A.nilL .mono),())))
(A.cond (A.iteB (A.iteB (A.cmp .eql x.1 (A.lit 4)) (A.cmp .eql x.2.1 (A.lit 65535)) (A.bl false)) (A.bl true) (A.iteB (A.cmp .eql x.1 (A.lit 5)) (A.cmp .eql x.2.1 (A.lit 0)) (A.bl false)))
(A.chk (p_k108 ((A.fL .poly 0 .mono x.2.2.1),()))
(A.letT [.l .mono] ((f_k108 ((A.fL .poly 0 .mono x.2.2.1),())).1,()) fun x1=>
(A.letT [.b] ((A.bl true),()) fun x2=>
(A.ret [.b,.l .mono] (x2.1,x1.1,())))))
(A.letT [.b] ((A.bl false),()) fun x1=>
(A.ret [.b,.l .mono] (x1.1,(A.nilL .mono),()))))))
def F_k116 (A:Alg) (p_k88:Tup A.toCar [.x .poly,.x .poly]→A.B) (f_k88:Tup A.toCar [.x .poly,.x .poly]→Tup A.toCar [.i]) (p_k108:Tup A.toCar [.l .mono]→A.B) (f_k108:Tup A.toCar [.l .mono]→Tup A.toCar [.l .mono]) (p_k95:Tup A.toCar [.i,.i,.i]→A.B) (f_k95:Tup A.toCar [.i,.i,.i]→Tup A.toCar [.i]) (p_k84:Tup A.toCar [.i]→A.B) (f_k84:Tup A.toCar [.i]→Tup A.toCar [.l .mono]) (p_k86:Tup A.toCar [.x .poly]→A.B) (f_k86:Tup A.toCar [.x .poly]→Tup A.toCar [.i,.b]) (p_k119:Tup A.toCar [.i,.i,.x .poly]→A.B) (f_k119:Tup A.toCar [.i,.i,.x .poly]→Tup A.toCar [.b,.l .mono]) (x:Tup A.toCar [.i,.x .poly,.x .poly]):A.M (Tup A.toCar [.b,.l .mono]):=
(A.letT [.b] ((A.bl false),()) fun x0=>
(A.chk (p_k86 (x.2.1,()))
(A.letT [.i,.b] ((f_k86 (x.2.1,())).1,(f_k86 (x.2.1,())).2.1,()) fun x1=>
(A.letT [.i] (x1.1,()) fun x2=>
(A.letT [.b] (x1.2.1,()) fun x3=>
(A.chk (p_k86 (x.2.2.1,()))
(A.letT [.i,.b] ((f_k86 (x.2.2.1,())).1,(f_k86 (x.2.2.1,())).2.1,()) fun x4=>
(A.letT [.i] (x4.1,()) fun x5=>
(A.letT [.b] (x4.2.1,()) fun x6=>
(A.cond (A.iteB x3.1 x6.1 (A.bl false))
(A.chk (p_k95 (x.1,x2.1,x5.1,()))
(A.letT [.i] ((f_k95 (x.1,x2.1,x5.1,())).1,()) fun x7=>
(A.chk (p_k84 (x7.1,()))
(A.letT [.l .mono] ((f_k84 (x7.1,())).1,()) fun x8=>
(A.letT [.b] ((A.bl true),()) fun x9=>
(A.ret [.b,.l .mono] (x9.1,x8.1,())))))))
(A.chk (p_k88 (x.2.1,x.2.2.1,()))
(A.letT [.i] ((f_k88 (x.2.1,x.2.2.1,())).1,()) fun x7=>
(A.cond (A.cmp .eql x7.1 (A.lit 0))
(A.cond (A.cmp .eql x.1 (A.lit 4))
(A.chk (p_k108 ((A.fL .poly 0 .mono x.2.1),()))
(A.letT [.l .mono] ((f_k108 ((A.fL .poly 0 .mono x.2.1),())).1,()) fun x8=>
(A.letT [.b] ((A.bl true),()) fun x9=>
(A.ret [.b,.l .mono] (x9.1,x8.1,())))))
(A.letT [.b] ((A.bl true),()) fun x8=>
(A.ret [.b,.l .mono] (x8.1,(A.nilL .mono),()))))
(A.cond x3.1
(A.chk (p_k119 (x.1,x2.1,x.2.2.1,()))
(A.letT [.b,.l .mono] ((f_k119 (x.1,x2.1,x.2.2.1,())).1,(f_k119 (x.1,x2.1,x.2.2.1,())).2.1,()) fun x8=>
(A.letT [.b] (x8.1,()) fun x9=>
(A.ret [.b,.l .mono] (x9.1,x8.2.1,())))))
(A.cond x6.1
(A.chk (p_k119 (x.1,x5.1,x.2.1,()))
(A.letT [.b,.l .mono] ((f_k119 (x.1,x5.1,x.2.1,())).1,(f_k119 (x.1,x5.1,x.2.1,())).2.1,()) fun x8=>
(A.letT [.b] (x8.1,()) fun x9=>
(A.ret [.b,.l .mono] (x9.1,x8.2.1,())))))
(A.letT [.b] ((A.bl false),()) fun x8=>
(A.ret [.b,.l .mono] (x8.1,(A.nilL .mono),()))))))))))))))))))
def F_k124 (A:Alg) (p_k108:Tup A.toCar [.l .mono]→A.B) (f_k108:Tup A.toCar [.l .mono]→Tup A.toCar [.l .mono]) (x:Tup A.toCar [.x .atom]):A.M (Tup A.toCar [.i,.i,.l .mono,.l .mono]):=
(A.chk (p_k108 ((A.fL .atom 2 .mono x.1),()))
(A.letT [.l .mono] ((f_k108 ((A.fL .atom 2 .mono x.1),())).1,()) fun x0=>
(A.chk (p_k108 ((A.fL .atom 3 .mono x.1),()))
(A.letT [.l .mono] ((f_k108 ((A.fL .atom 3 .mono x.1),())).1,()) fun x1=>
(A.ret [.i,.i,.l .mono,.l .mono] ((A.fI .atom 0 x.1),(A.fI .atom 1 x.1),x0.1,x1.1,()))))))
def F_k120 (A:Alg) (p_k114:Tup A.toCar [.x .atom,.i]→A.B) (f_k114:Tup A.toCar [.x .atom,.i]→Tup A.toCar [.b]) (p_k122:Tup A.toCar [.x .atom,.x .atom]→A.B) (f_k122:Tup A.toCar [.x .atom,.x .atom]→Tup A.toCar [.b]) (p_k124:Tup A.toCar [.x .atom]→A.B) (f_k124:Tup A.toCar [.x .atom]→Tup A.toCar [.i,.i,.l .mono,.l .mono]) (x:Tup A.toCar [.x .atom,.l .atom]):A.M (Tup A.toCar [.i,.l .atom]):=
(A.letT [.i] ((A.lit 0),()) fun x0=>
(A.chk (p_k114 (x.1,(A.len .atom x.2.1),()))
(A.letT [.b] ((f_k114 (x.1,(A.len .atom x.2.1),())).1,()) fun x1=>
(A.cond (A.notB x1.1)
(A.letT [.i] ((A.lit (-1)),()) fun x2=>
(A.ret [.i,.l .atom] (x2.1,x.2.1,())))
(A.letT [.i] ((A.lit 0),()) fun x2=>
(A.iter [.i,.l .atom,.x .atom] (fun x3=>
(A.cond (A.cmp .lss x3.1 (A.len .atom x3.2.1))
(A.chk (A.cmp .leq (A.lit 0) x3.1)
(A.chk (A.cmp .lss x3.1 (A.len .atom x3.2.1))
(A.chk (A.cmp .leq (A.lit 0) x3.1)
(A.chk (A.cmp .lss x3.1 (A.len .atom x3.2.1))
(A.chk (p_k122 ((A.get .atom x3.2.1 x3.1),x3.2.2.1,()))
(A.letT [.b] ((f_k122 ((A.get .atom x3.2.1 x3.1),x3.2.2.1,())).1,()) fun x4=>
(A.cond x4.1
(A.letT [.i] (x3.1,()) fun x5=>
(A.inr [.i,.l .atom,.x .atom] (A.ret [.i,.l .atom] (x5.1,x3.2.1,()))))
(A.letT [.i] ((A.arith .add .i64 x3.1 (A.lit 1)),()) fun x5=>
(A.inl [.i,.l .atom,.x .atom] (x5.1,x3.2.1,x3.2.2.1,()))))))))))
(A.inr [.i,.l .atom,.x .atom] (A.cond (A.cmp .eql (A.len .atom x3.2.1) (A.lit 200))
(A.letT [.i] ((A.lit (-1)),()) fun x4=>
(A.ret [.i,.l .atom] (x4.1,x3.2.1,())))
(A.chk (p_k124 (x3.2.2.1,()))
(A.letT [.i,.i,.l .mono,.l .mono] ((f_k124 (x3.2.2.1,())).1,(f_k124 (x3.2.2.1,())).2.1,(f_k124 (x3.2.2.1,())).2.2.1,(f_k124 (x3.2.2.1,())).2.2.2.1,()) fun x4=>
(A.letT [.l .atom] ((A.lst .atom [(A.mkX .atom (x4.1,x4.2.1,x4.2.2.1,x4.2.2.2.1,()))]),()) fun x5=>
(A.chk (A.cmp .leq (A.addN (A.len .atom x3.2.1) (A.len .atom x5.1)) (A.lit 1073741824))
(A.letT [.l .atom] ((A.app .atom x3.2.1 x5.1),()) fun x6=>
(A.letT [.i] ((A.arith .sub .i64 (A.len .atom x6.1) (A.lit 1)),()) fun x7=>
(A.ret [.i,.l .atom] (x7.1,x6.1,())))))))))))) (x2.1,x.2.1,x.1,())))))))
def F_k118 (A:Alg) (p_k83:Tup A.toCar [.i]→A.B) (f_k83:Tup A.toCar [.i]→Tup A.toCar [.l .mono]) (p_k88:Tup A.toCar [.x .poly,.x .poly]→A.B) (f_k88:Tup A.toCar [.x .poly,.x .poly]→Tup A.toCar [.i]) (p_k121:Tup A.toCar [.i,.x .poly,.x .poly]→A.B) (f_k121:Tup A.toCar [.i,.x .poly,.x .poly]→Tup A.toCar [.b,.l .mono]) (p_k116:Tup A.toCar [.i,.x .poly,.x .poly]→A.B) (f_k116:Tup A.toCar [.i,.x .poly,.x .poly]→Tup A.toCar [.b,.l .mono]) (p_k120:Tup A.toCar [.x .atom,.l .atom]→A.B) (f_k120:Tup A.toCar [.x .atom,.l .atom]→Tup A.toCar [.i,.l .atom]) (x:Tup A.toCar [.i,.x .poly,.x .poly,.l .atom]):A.M (Tup A.toCar [.l .atom,.l .mono]):=
(A.chk (p_k121 (x.1,x.2.1,x.2.2.1,()))
(A.letT [.b,.l .mono] ((f_k121 (x.1,x.2.1,x.2.2.1,())).1,(f_k121 (x.1,x.2.1,x.2.2.1,())).2.1,()) fun x0=>
(A.letT [.b] (x0.1,()) fun x1=>
(A.bind [.i,.b,.l .atom,.x .poly,.x .poly,.l .mono]
(A.cond (A.iteB (A.cmp .eql x.1 (A.lit 4)) (A.bl true) (A.cmp .eql x.1 (A.lit 5)))
(A.chk (p_k116 (x.1,x.2.1,x.2.2.1,()))
(A.letT [.b,.l .mono] ((f_k116 (x.1,x.2.1,x.2.2.1,())).1,(f_k116 (x.1,x.2.1,x.2.2.1,())).2.1,()) fun x2=>
(A.letT [.b] (x2.1,()) fun x3=>
(A.ret [.i,.b,.l .atom,.x .poly,.x .poly,.l .mono] (x.1,x3.1,x.2.2.2.1,x.2.1,x.2.2.1,x2.2.1,())))))
(A.ret [.i,.b,.l .atom,.x .poly,.x .poly,.l .mono] (x.1,x1.1,x.2.2.2.1,x.2.1,x.2.2.1,x0.2.1,())))
fun x2=>
(A.cond x2.2.1
(A.ret [.l .atom,.l .mono] (x2.2.2.1,x2.2.2.2.2.2.1,()))
(A.chk (A.orB (A.notB (A.cmp .neq x2.1 (A.lit 2))) (p_k88 (x2.2.2.2.1,x2.2.2.2.2.1,())))
(A.letT [.i] ((f_k88 (x2.2.2.2.1,x2.2.2.2.2.1,())).1,()) fun x3=>
(A.bind [.l .atom,.i,.i,.l .mono,.l .mono]
(A.cond (A.iteB (A.cmp .neq x2.1 (A.lit 2)) (A.cmp .gtr x3.1 (A.lit 0)) (A.bl false))
(A.ret [.l .atom,.i,.i,.l .mono,.l .mono] (x2.2.2.1,(A.lit 4),x2.1,(A.fL .poly 0 .mono x2.2.2.2.2.1),(A.fL .poly 0 .mono x2.2.2.2.1),()))
(A.ret [.l .atom,.i,.i,.l .mono,.l .mono] (x2.2.2.1,(A.lit 4),x2.1,(A.fL .poly 0 .mono x2.2.2.2.1),(A.fL .poly 0 .mono x2.2.2.2.2.1),())))
fun x4=>
(A.chk (p_k120 ((A.mkX .atom (x4.2.1,x4.2.2.1,x4.2.2.2.1,x4.2.2.2.2.1,())),x4.1,()))
(A.letT [.i,.l .atom] ((f_k120 ((A.mkX .atom (x4.2.1,x4.2.2.1,x4.2.2.2.1,x4.2.2.2.2.1,())),x4.1,())).1,(f_k120 ((A.mkX .atom (x4.2.1,x4.2.2.1,x4.2.2.2.1,x4.2.2.2.2.1,())),x4.1,())).2.1,()) fun x5=>
(A.letT [.i] (x5.1,()) fun x6=>
(A.cond (A.cmp .lss x6.1 (A.lit 0))
(A.ret [.l .atom,.l .mono] ((A.nilL .atom),(A.nilL .mono),()))
(A.chk (p_k83 (x6.1,()))
(A.letT [.l .mono] ((f_k83 (x6.1,())).1,()) fun x7=>
(A.ret [.l .atom,.l .mono] (x5.2.1,x7.1,()))))))))))))))))
def F_k117 (A:Alg) (p_k124:Tup A.toCar [.x .atom]→A.B) (f_k124:Tup A.toCar [.x .atom]→Tup A.toCar [.i,.i,.l .mono,.l .mono]) (x:Tup A.toCar [.x .tab]):A.M (Tup A.toCar [.l .atom]):=
(A.letT [.i] ((A.lit 0),()) fun x0=>
(A.iter [.i,.x .tab,.l .atom] (fun x1=>
(A.cond (A.cmp .lss x1.1 (A.len .atom (A.fL .tab 0 .atom x1.2.1)))
(A.chk (A.cmp .leq (A.lit 0) x1.1)
(A.chk (A.cmp .lss x1.1 (A.len .atom (A.fL .tab 0 .atom x1.2.1)))
(A.chk (p_k124 ((A.get .atom (A.fL .tab 0 .atom x1.2.1) x1.1),()))
(A.letT [.i,.i,.l .mono,.l .mono] ((f_k124 ((A.get .atom (A.fL .tab 0 .atom x1.2.1) x1.1),())).1,(f_k124 ((A.get .atom (A.fL .tab 0 .atom x1.2.1) x1.1),())).2.1,(f_k124 ((A.get .atom (A.fL .tab 0 .atom x1.2.1) x1.1),())).2.2.1,(f_k124 ((A.get .atom (A.fL .tab 0 .atom x1.2.1) x1.1),())).2.2.2.1,()) fun x2=>
(A.letT [.l .atom] ((A.lst .atom [(A.mkX .atom (x2.1,x2.2.1,x2.2.2.1,x2.2.2.2.1,()))]),()) fun x3=>
(A.chk (A.cmp .leq (A.addN (A.len .atom x1.2.2.1) (A.len .atom x3.1)) (A.lit 1073741824))
(A.letT [.l .atom] ((A.app .atom x1.2.2.1 x3.1),()) fun x4=>
(A.letT [.i] ((A.arith .add .i64 x1.1 (A.lit 1)),()) fun x5=>
(A.inl [.i,.x .tab,.l .atom] (x5.1,x1.2.1,x4.1,()))))))))))
(A.inr [.i,.x .tab,.l .atom] (A.ret [.l .atom] (x1.2.2.1,()))))) (x0.1,x.1,(A.nilL .atom),())))
def F_k92 (A:Alg) (p_k98:Tup A.toCar [.i,.i,.i]→A.B) (f_k98:Tup A.toCar [.i,.i,.i]→Tup A.toCar [.b]) (p_k93:Tup A.toCar [.x .tab]→A.B) (f_k93:Tup A.toCar [.x .tab]→Tup A.toCar [.b]) (p_k123:Tup A.toCar [.x .poly,.x .poly,.i]→A.B) (f_k123:Tup A.toCar [.x .poly,.x .poly,.i]→Tup A.toCar [.b]) (p_k118:Tup A.toCar [.i,.x .poly,.x .poly,.l .atom]→A.B) (f_k118:Tup A.toCar [.i,.x .poly,.x .poly,.l .atom]→Tup A.toCar [.l .atom,.l .mono]) (p_k117:Tup A.toCar [.x .tab]→A.B) (f_k117:Tup A.toCar [.x .tab]→Tup A.toCar [.l .atom]) (x:Tup A.toCar [.x .tab,.i,.x .poly,.x .poly]):A.M (Tup A.toCar [.l .atom,.l .mono]):=
(A.chk (p_k93 (x.1,()))
(A.letT [.b] ((f_k93 (x.1,())).1,()) fun x0=>
(A.chk (A.orB (A.notB (A.notB (A.notB x0.1))) (p_k98 (x.2.1,(A.lit 1),(A.lit 5),())))
(A.letT [.b] ((f_k98 (x.2.1,(A.lit 1),(A.lit 5),())).1,()) fun x1=>
(A.chk (A.orB (A.notB (A.notB (A.iteB (A.notB x0.1) (A.bl true) (A.notB x1.1)))) (p_k123 (x.2.2.1,x.2.2.2.1,(A.len .atom (A.fL .tab 0 .atom x.1)),())))
(A.letT [.b] ((f_k123 (x.2.2.1,x.2.2.2.1,(A.len .atom (A.fL .tab 0 .atom x.1)),())).1,()) fun x2=>
(A.cond (A.iteB (A.iteB (A.notB x0.1) (A.bl true) (A.notB x1.1)) (A.bl true) (A.notB x2.1))
(A.ret [.l .atom,.l .mono] ((A.nilL .atom),(A.nilL .mono),()))
(A.chk (p_k117 (x.1,()))
(A.letT [.l .atom] ((f_k117 (x.1,())).1,()) fun x3=>
(A.chk (p_k118 (x.2.1,x.2.2.1,x.2.2.2.1,x3.1,()))
(A.letT [.l .atom,.l .mono] ((f_k118 (x.2.1,x.2.2.1,x.2.2.2.1,x3.1,())).1,(f_k118 (x.2.1,x.2.2.1,x.2.2.2.1,x3.1,())).2.1,()) fun x4=>
(A.ret [.l .atom,.l .mono] (x4.1,x4.2.1,())))))))))))))
def F_k102 (A:Alg) (p_k101:Tup A.toCar [.i,.l .u8,.i]→A.B) (f_k101:Tup A.toCar [.i,.l .u8,.i]→Tup A.toCar [.i,.l .u8,.i]) (x:Tup A.toCar [.l .u8,.i]):A.M (Tup A.toCar [.i,.l .u8,.i]):=
(A.letT [.i] ((A.lit 0),()) fun x0=>
(A.chk (p_k101 ((A.lit 4),x.1,x.2.1,()))
(A.letT [.i,.l .u8,.i] ((f_k101 ((A.lit 4),x.1,x.2.1,())).1,(f_k101 ((A.lit 4),x.1,x.2.1,())).2.1,(f_k101 ((A.lit 4),x.1,x.2.1,())).2.2.1,()) fun x1=>
(A.letT [.b] ((A.cmp .eql x1.1 (A.lit 0)),()) fun x2=>
(A.cond x2.1
(A.letT [.l .i64] ((A.lst .i64 [(A.mkX .i64 ((A.lit 0),())),(A.mkX .i64 ((A.lit 1),())),(A.mkX .i64 ((A.lit 2),())),(A.mkX .i64 ((A.lit 3),())),(A.mkX .i64 ((A.lit 65535),())),(A.mkX .i64 ((A.lit 32768),())),(A.mkX .i64 ((A.lit 255),())),(A.mkX .i64 ((A.lit 256),())),(A.mkX .i64 ((A.lit 65534),()))]),()) fun x3=>
(A.chk (p_k101 ((A.lit 9),x1.2.1,x1.2.2.1,()))
(A.letT [.i,.l .u8,.i] ((f_k101 ((A.lit 9),x1.2.1,x1.2.2.1,())).1,(f_k101 ((A.lit 9),x1.2.1,x1.2.2.1,())).2.1,(f_k101 ((A.lit 9),x1.2.1,x1.2.2.1,())).2.2.1,()) fun x4=>
(A.chk (A.cmp .leq (A.lit 0) x4.1)
(A.chk (A.cmp .lss x4.1 (A.len .i64 x3.1))
(A.chk (A.cmp .leq (A.lit 0) x4.1)
(A.chk (A.cmp .lss x4.1 (A.len .i64 x3.1))
(A.letT [.i] ((A.fI .i64 0 (A.get .i64 x3.1 x4.1)),()) fun x5=>
(A.ret [.i,.l .u8,.i] (x5.1,x4.2.1,x4.2.2.1,()))))))))))
(A.letT [.b] ((A.cmp .eql x1.1 (A.lit 1)),()) fun x3=>
(A.cond x3.1
(A.chk (p_k101 ((A.lit 70),x1.2.1,x1.2.2.1,()))
(A.letT [.i,.l .u8,.i] ((f_k101 ((A.lit 70),x1.2.1,x1.2.2.1,())).1,(f_k101 ((A.lit 70),x1.2.1,x1.2.2.1,())).2.1,(f_k101 ((A.lit 70),x1.2.1,x1.2.2.1,())).2.2.1,()) fun x4=>
(A.letT [.i] (x4.1,()) fun x5=>
(A.ret [.i,.l .u8,.i] (x5.1,x4.2.1,x4.2.2.1,())))))
(A.chk (p_k101 ((A.lit 256),x1.2.1,x1.2.2.1,()))
(A.letT [.i,.l .u8,.i] ((f_k101 ((A.lit 256),x1.2.1,x1.2.2.1,())).1,(f_k101 ((A.lit 256),x1.2.1,x1.2.2.1,())).2.1,(f_k101 ((A.lit 256),x1.2.1,x1.2.2.1,())).2.2.1,()) fun x4=>
(A.chk (p_k101 ((A.lit 256),x4.2.1,x4.2.2.1,()))
(A.letT [.i,.l .u8,.i] ((f_k101 ((A.lit 256),x4.2.1,x4.2.2.1,())).1,(f_k101 ((A.lit 256),x4.2.1,x4.2.2.1,())).2.1,(f_k101 ((A.lit 256),x4.2.1,x4.2.2.1,())).2.2.1,()) fun x5=>
(A.letT [.i] ((A.arith .add .i64 (A.arith .mul .i64 x4.1 (A.lit 256)) x5.1),()) fun x6=>
(A.ret [.i,.l .u8,.i] (x6.1,x5.2.1,x5.2.2.1,()))))))))))))))
def F_k105 (A:Alg) (p_k101:Tup A.toCar [.i,.l .u8,.i]→A.B) (f_k101:Tup A.toCar [.i,.l .u8,.i]→Tup A.toCar [.i,.l .u8,.i]) (p_k83:Tup A.toCar [.i]→A.B) (f_k83:Tup A.toCar [.i]→Tup A.toCar [.l .mono]) (p_k85:Tup A.toCar [.x .poly,.x .poly]→A.B) (f_k85:Tup A.toCar [.x .poly,.x .poly]→Tup A.toCar [.b,.l .mono]) (p_k82:Tup A.toCar [.x .poly,.x .poly]→A.B) (f_k82:Tup A.toCar [.x .poly,.x .poly]→Tup A.toCar [.b,.l .mono]) (p_k84:Tup A.toCar [.i]→A.B) (f_k84:Tup A.toCar [.i]→Tup A.toCar [.l .mono]) (p_k102:Tup A.toCar [.l .u8,.i]→A.B) (f_k102:Tup A.toCar [.l .u8,.i]→Tup A.toCar [.i,.l .u8,.i]) (x:Tup A.toCar [.i,.l .u8,.i]):A.M (Tup A.toCar [.l .u8,.i,.l .mono]):=
(A.chk (p_k102 (x.2.1,x.2.2.1,()))
(A.letT [.i,.l .u8,.i] ((f_k102 (x.2.1,x.2.2.1,())).1,(f_k102 (x.2.1,x.2.2.1,())).2.1,(f_k102 (x.2.1,x.2.2.1,())).2.2.1,()) fun x0=>
(A.letT [.l .i64] ((A.lst .i64 [(A.mkX .i64 ((A.lit 0),())),(A.mkX .i64 ((A.lit 1),())),(A.mkX .i64 (x0.1,()))]),()) fun x1=>
(A.chk (p_k101 ((A.lit 3),x0.2.1,x0.2.2.1,()))
(A.letT [.i,.l .u8,.i] ((f_k101 ((A.lit 3),x0.2.1,x0.2.2.1,())).1,(f_k101 ((A.lit 3),x0.2.1,x0.2.2.1,())).2.1,(f_k101 ((A.lit 3),x0.2.1,x0.2.2.1,())).2.2.1,()) fun x2=>
(A.chk (A.cmp .leq (A.lit 0) x2.1)
(A.chk (A.cmp .lss x2.1 (A.len .i64 x1.1))
(A.chk (A.cmp .leq (A.lit 0) x2.1)
(A.chk (A.cmp .lss x2.1 (A.len .i64 x1.1))
(A.chk (p_k84 ((A.fI .i64 0 (A.get .i64 x1.1 x2.1)),()))
(A.letT [.l .mono] ((f_k84 ((A.fI .i64 0 (A.get .i64 x1.1 x2.1)),())).1,()) fun x3=>
(A.letT [.l .i64] ((A.lst .i64 [(A.mkX .i64 ((A.lit 0),())),(A.mkX .i64 ((A.lit 1),())),(A.mkX .i64 ((A.lit 2),())),(A.mkX .i64 ((A.lit 3),())),(A.mkX .i64 ((A.lit 6),())),(A.mkX .i64 ((A.lit 12),()))]),()) fun x4=>
(A.chk (p_k101 ((A.lit 6),x2.2.1,x2.2.2.1,()))
(A.letT [.i,.l .u8,.i] ((f_k101 ((A.lit 6),x2.2.1,x2.2.2.1,())).1,(f_k101 ((A.lit 6),x2.2.1,x2.2.2.1,())).2.1,(f_k101 ((A.lit 6),x2.2.1,x2.2.2.1,())).2.2.1,()) fun x5=>
(A.chk (A.cmp .leq (A.lit 0) x5.1)
(A.chk (A.cmp .lss x5.1 (A.len .i64 x4.1))
(A.chk (A.cmp .leq (A.lit 0) x5.1)
(A.chk (A.cmp .lss x5.1 (A.len .i64 x4.1))
(A.letT [.i] ((A.fI .i64 0 (A.get .i64 x4.1 x5.1)),()) fun x6=>
(A.iter [.i,.i,.l .u8,.i,.l .mono] (fun x7=>
(A.cond (A.cmp .gtr x7.2.1 (A.lit 0))
(A.chk (p_k102 (x7.2.2.1,x7.2.2.2.1,()))
(A.letT [.i,.l .u8,.i] ((f_k102 (x7.2.2.1,x7.2.2.2.1,())).1,(f_k102 (x7.2.2.1,x7.2.2.2.1,())).2.1,(f_k102 (x7.2.2.1,x7.2.2.2.1,())).2.2.1,()) fun x8=>
(A.chk (A.cmp .neq (A.lit 65535) (A.lit 0))
(A.letT [.l .mono] ((A.lst .mono [(A.mkX .mono ((A.arith .add .i64 (A.lit 1) (A.arith .rem .i64 x8.1 (A.lit 65535))),(A.nilL .i64),()))]),()) fun x9=>
(A.chk (p_k101 ((A.lit 3),x8.2.1,x8.2.2.1,()))
(A.letT [.i,.l .u8,.i] ((f_k101 ((A.lit 3),x8.2.1,x8.2.2.1,())).1,(f_k101 ((A.lit 3),x8.2.1,x8.2.2.1,())).2.1,(f_k101 ((A.lit 3),x8.2.1,x8.2.2.1,())).2.2.1,()) fun x10=>
(A.letT [.i] (x10.1,()) fun x11=>
(A.iter [.i,.i,.i,.l .u8,.i,.l .mono,.l .mono] (fun x12=>
(A.cond (A.iteB (A.cmp .gtr x12.2.2.1 (A.lit 0)) (A.cmp .gtr x12.1 (A.lit 0)) (A.bl false))
(A.chk (p_k101 (x12.1,x12.2.2.2.1,x12.2.2.2.2.1,()))
(A.letT [.i,.l .u8,.i] ((f_k101 (x12.1,x12.2.2.2.1,x12.2.2.2.2.1,())).1,(f_k101 (x12.1,x12.2.2.2.1,x12.2.2.2.2.1,())).2.1,(f_k101 (x12.1,x12.2.2.2.1,x12.2.2.2.2.1,())).2.2.1,()) fun x13=>
(A.chk (p_k83 (x13.1,()))
(A.letT [.l .mono] ((f_k83 (x13.1,())).1,()) fun x14=>
(A.chk (p_k85 ((A.mkX .poly (x12.2.2.2.2.2.2.1,())),(A.mkX .poly (x14.1,())),()))
(A.letT [.b,.l .mono] ((f_k85 ((A.mkX .poly (x12.2.2.2.2.2.2.1,())),(A.mkX .poly (x14.1,())),())).1,(f_k85 ((A.mkX .poly (x12.2.2.2.2.2.2.1,())),(A.mkX .poly (x14.1,())),())).2.1,()) fun x15=>
(A.letT [.b] (x15.1,()) fun x16=>
(A.bind [.i,.i,.i,.l .u8,.i,.l .mono,.l .mono]
(A.cond x16.1
(A.ret [.i,.i,.i,.l .u8,.i,.l .mono,.l .mono] (x12.1,x12.2.1,x12.2.2.1,x13.2.1,x13.2.2.1,x12.2.2.2.2.2.1,x15.2.1,()))
(A.ret [.i,.i,.i,.l .u8,.i,.l .mono,.l .mono] (x12.1,x12.2.1,x12.2.2.1,x13.2.1,x13.2.2.1,x12.2.2.2.2.2.1,x12.2.2.2.2.2.2.1,())))
fun x17=>
(A.letT [.i] ((A.arith .sub .i64 x17.2.2.1 (A.lit 1)),()) fun x18=>
(A.inl [.i,.i,.i,.l .u8,.i,.l .mono,.l .mono] (x17.1,x17.2.1,x18.1,x17.2.2.2.1,x17.2.2.2.2.1,x17.2.2.2.2.2.1,x17.2.2.2.2.2.2.1,())))))))))))
(A.inr [.i,.i,.i,.l .u8,.i,.l .mono,.l .mono] (A.chk (p_k82 ((A.mkX .poly (x12.2.2.2.2.2.1,())),(A.mkX .poly (x12.2.2.2.2.2.2.1,())),()))
(A.letT [.b,.l .mono] ((f_k82 ((A.mkX .poly (x12.2.2.2.2.2.1,())),(A.mkX .poly (x12.2.2.2.2.2.2.1,())),())).1,(f_k82 ((A.mkX .poly (x12.2.2.2.2.2.1,())),(A.mkX .poly (x12.2.2.2.2.2.2.1,())),())).2.1,()) fun x13=>
(A.letT [.b] (x13.1,()) fun x14=>
(A.bind [.i,.i,.l .u8,.i,.l .mono]
(A.cond x14.1
(A.ret [.i,.i,.l .u8,.i,.l .mono] (x12.1,x12.2.1,x12.2.2.2.1,x12.2.2.2.2.1,x13.2.1,()))
(A.ret [.i,.i,.l .u8,.i,.l .mono] (x12.1,x12.2.1,x12.2.2.2.1,x12.2.2.2.2.1,x12.2.2.2.2.2.1,())))
fun x15=>
(A.letT [.i] ((A.arith .sub .i64 x15.2.1 (A.lit 1)),()) fun x16=>
(A.inl [.i,.i,.l .u8,.i,.l .mono] (x15.1,x16.1,x15.2.2.1,x15.2.2.2.1,x15.2.2.2.2.1,())))))))))) (x7.1,x7.2.1,x11.1,x10.2.1,x10.2.2.1,x7.2.2.2.2.1,x9.1,())))))))))
(A.inr [.i,.i,.l .u8,.i,.l .mono] (A.ret [.l .u8,.i,.l .mono] (x7.2.2.1,x7.2.2.2.1,x7.2.2.2.2.1,()))))) (x.1,x6.1,x5.2.1,x5.2.2.1,x3.1,())))))))))))))))))))))
def F_k91 (A:Alg) (p_k83:Tup A.toCar [.i]→A.B) (f_k83:Tup A.toCar [.i]→Tup A.toCar [.l .mono]) (x:Tup A.toCar []):A.M (Tup A.toCar [.l .atom,.l .poly]):=
(A.letT [.l .poly] ((A.lst .poly []),()) fun x0=>
(A.letT [.i] ((A.lit 0),()) fun x1=>
(A.iter [.i,.l .poly,.l .atom] (fun x2=>
(A.cond (A.cmp .lss x2.1 (A.lit 4))
(A.letT [.l .atom] ((A.lst .atom [(A.mkX .atom ((A.lit 1),x2.1,(A.nilL .mono),(A.nilL .mono),()))]),()) fun x3=>
(A.chk (A.cmp .leq (A.addN (A.len .atom x2.2.2.1) (A.len .atom x3.1)) (A.lit 1073741824))
(A.letT [.l .atom] ((A.app .atom x2.2.2.1 x3.1),()) fun x4=>
(A.chk (p_k83 (x2.1,()))
(A.letT [.l .mono] ((f_k83 (x2.1,())).1,()) fun x5=>
(A.letT [.l .poly] ((A.lst .poly [(A.mkX .poly (x5.1,()))]),()) fun x6=>
(A.chk (A.cmp .leq (A.addN (A.len .poly x2.2.1) (A.len .poly x6.1)) (A.lit 1073741824))
(A.letT [.l .poly] ((A.app .poly x2.2.1 x6.1),()) fun x7=>
(A.letT [.i] ((A.arith .add .i64 x2.1 (A.lit 1)),()) fun x8=>
(A.inl [.i,.l .poly,.l .atom] (x8.1,x7.1,x4.1,())))))))))))
(A.inr [.i,.l .poly,.l .atom] (A.ret [.l .atom,.l .poly] (x2.2.2.1,x2.2.1,()))))) (x1.1,x0.1,(A.nilL .atom),()))))
def F_k94 (A:Alg) (p_k93:Tup A.toCar [.x .tab]→A.B) (f_k93:Tup A.toCar [.x .tab]→Tup A.toCar [.b]) (p_k120:Tup A.toCar [.x .atom,.l .atom]→A.B) (f_k120:Tup A.toCar [.x .atom,.l .atom]→Tup A.toCar [.i,.l .atom]) (p_k117:Tup A.toCar [.x .tab]→A.B) (f_k117:Tup A.toCar [.x .tab]→Tup A.toCar [.l .atom]) (x:Tup A.toCar [.x .tab,.x .atom]):A.M (Tup A.toCar [.i,.l .atom]):=
(A.letT [.i] ((A.lit 0),()) fun x0=>
(A.chk (p_k93 (x.1,()))
(A.letT [.b] ((f_k93 (x.1,())).1,()) fun x1=>
(A.cond (A.notB x1.1)
(A.letT [.i] ((A.lit (-1)),()) fun x2=>
(A.ret [.i,.l .atom] (x2.1,(A.nilL .atom),())))
(A.chk (p_k117 (x.1,()))
(A.letT [.l .atom] ((f_k117 (x.1,())).1,()) fun x2=>
(A.chk (p_k120 (x.2.1,x2.1,()))
(A.letT [.i,.l .atom] ((f_k120 (x.2.1,x2.1,())).1,(f_k120 (x.2.1,x2.1,())).2.1,()) fun x3=>
(A.letT [.i] (x3.1,()) fun x4=>
(A.ret [.i,.l .atom] (x4.1,x3.2.1,())))))))))))
def F_k106 (A:Alg) (p_k101:Tup A.toCar [.i,.l .u8,.i]→A.B) (f_k101:Tup A.toCar [.i,.l .u8,.i]→Tup A.toCar [.i,.l .u8,.i]) (p_k92:Tup A.toCar [.x .tab,.i,.x .poly,.x .poly]→A.B) (f_k92:Tup A.toCar [.x .tab,.i,.x .poly,.x .poly]→Tup A.toCar [.l .atom,.l .mono]) (p_k105:Tup A.toCar [.i,.l .u8,.i]→A.B) (f_k105:Tup A.toCar [.i,.l .u8,.i]→Tup A.toCar [.l .u8,.i,.l .mono]) (p_k91:Tup A.toCar []→A.B) (f_k91:Tup A.toCar []→Tup A.toCar [.l .atom,.l .poly]) (p_k94:Tup A.toCar [.x .tab,.x .atom]→A.B) (f_k94:Tup A.toCar [.x .tab,.x .atom]→Tup A.toCar [.i,.l .atom]) (x:Tup A.toCar [.l .u8,.i]):A.M (Tup A.toCar [.l .u8,.i,.l .atom]):=
(A.chk (p_k91 (()))
(A.letT [.l .atom,.l .poly] ((f_k91 (())).1,(f_k91 (())).2.1,()) fun x0=>
(A.chk (p_k101 ((A.lit 7),x.1,x.2.1,()))
(A.letT [.i,.l .u8,.i] ((f_k101 ((A.lit 7),x.1,x.2.1,())).1,(f_k101 ((A.lit 7),x.1,x.2.1,())).2.1,(f_k101 ((A.lit 7),x.1,x.2.1,())).2.2.1,()) fun x1=>
(A.letT [.i] (x1.1,()) fun x2=>
(A.iter [.i,.l .u8,.i,.l .atom] (fun x3=>
(A.cond (A.cmp .gtr x3.1 (A.lit 0))
(A.letT [.i] ((A.len .atom x3.2.2.2.1),()) fun x4=>
(A.chk (p_k101 ((A.lit 5),x3.2.1,x3.2.2.1,()))
(A.letT [.i,.l .u8,.i] ((f_k101 ((A.lit 5),x3.2.1,x3.2.2.1,())).1,(f_k101 ((A.lit 5),x3.2.1,x3.2.2.1,())).2.1,(f_k101 ((A.lit 5),x3.2.1,x3.2.2.1,())).2.2.1,()) fun x5=>
(A.chk (p_k105 (x4.1,x5.2.1,x5.2.2.1,()))
(A.letT [.l .u8,.i,.l .mono] ((f_k105 (x4.1,x5.2.1,x5.2.2.1,())).1,(f_k105 (x4.1,x5.2.1,x5.2.2.1,())).2.1,(f_k105 (x4.1,x5.2.1,x5.2.2.1,())).2.2.1,()) fun x6=>
(A.chk (p_k105 (x4.1,x6.1,x6.2.1,()))
(A.letT [.l .u8,.i,.l .mono] ((f_k105 (x4.1,x6.1,x6.2.1,())).1,(f_k105 (x4.1,x6.1,x6.2.1,())).2.1,(f_k105 (x4.1,x6.1,x6.2.1,())).2.2.1,()) fun x7=>
(A.chk (p_k92 ((A.mkX .tab (x3.2.2.2.1,())),(A.arith .add .i64 (A.lit 1) x5.1),(A.mkX .poly (x6.2.2.1,())),(A.mkX .poly (x7.2.2.1,())),()))
(A.letT [.l .atom,.l .mono] ((f_k92 ((A.mkX .tab (x3.2.2.2.1,())),(A.arith .add .i64 (A.lit 1) x5.1),(A.mkX .poly (x6.2.2.1,())),(A.mkX .poly (x7.2.2.1,())),())).1,(f_k92 ((A.mkX .tab (x3.2.2.2.1,())),(A.arith .add .i64 (A.lit 1) x5.1),(A.mkX .poly (x6.2.2.1,())),(A.mkX .poly (x7.2.2.1,())),())).2.1,()) fun x8=>
(A.letT [.i] ((A.arith .sub .i64 x3.1 (A.lit 1)),()) fun x9=>
(A.inl [.i,.l .u8,.i,.l .atom] (x9.1,x7.1,x7.2.1,x8.1,()))))))))))))
(A.inr [.i,.l .u8,.i,.l .atom] (A.chk (p_k101 ((A.lit 3),x3.2.1,x3.2.2.1,()))
(A.letT [.i,.l .u8,.i] ((f_k101 ((A.lit 3),x3.2.1,x3.2.2.1,())).1,(f_k101 ((A.lit 3),x3.2.1,x3.2.2.1,())).2.1,(f_k101 ((A.lit 3),x3.2.1,x3.2.2.1,())).2.2.1,()) fun x4=>
(A.bind [.l .u8,.i,.l .atom]
(A.cond (A.cmp .eql x4.1 (A.lit 0))
(A.chk (p_k101 ((A.lit 2),x4.2.1,x4.2.2.1,()))
(A.letT [.i,.l .u8,.i] ((f_k101 ((A.lit 2),x4.2.1,x4.2.2.1,())).1,(f_k101 ((A.lit 2),x4.2.1,x4.2.2.1,())).2.1,(f_k101 ((A.lit 2),x4.2.1,x4.2.2.1,())).2.2.1,()) fun x5=>
(A.chk (A.cmp .leq (A.lit 0) x5.1)
(A.chk (A.cmp .lss x5.1 (A.len .i64 (A.lst .i64 [(A.mkX .i64 ((A.lit 2),())),(A.mkX .i64 ((A.lit 3),()))])))
(A.chk (p_k101 ((A.lit 3),x5.2.1,x5.2.2.1,()))
(A.letT [.i,.l .u8,.i] ((f_k101 ((A.lit 3),x5.2.1,x5.2.2.1,())).1,(f_k101 ((A.lit 3),x5.2.1,x5.2.2.1,())).2.1,(f_k101 ((A.lit 3),x5.2.1,x5.2.2.1,())).2.2.1,()) fun x6=>
(A.chk (p_k94 ((A.mkX .tab (x3.2.2.2.1,())),(A.mkX .atom ((A.fI .i64 0 (A.get .i64 (A.lst .i64 [(A.mkX .i64 ((A.lit 2),())),(A.mkX .i64 ((A.lit 3),()))]) x5.1)),x6.1,(A.nilL .mono),(A.nilL .mono),())),()))
(A.letT [.i,.l .atom] ((f_k94 ((A.mkX .tab (x3.2.2.2.1,())),(A.mkX .atom ((A.fI .i64 0 (A.get .i64 (A.lst .i64 [(A.mkX .i64 ((A.lit 2),())),(A.mkX .i64 ((A.lit 3),()))]) x5.1)),x6.1,(A.nilL .mono),(A.nilL .mono),())),())).1,(f_k94 ((A.mkX .tab (x3.2.2.2.1,())),(A.mkX .atom ((A.fI .i64 0 (A.get .i64 (A.lst .i64 [(A.mkX .i64 ((A.lit 2),())),(A.mkX .i64 ((A.lit 3),()))]) x5.1)),x6.1,(A.nilL .mono),(A.nilL .mono),())),())).2.1,()) fun x7=>
(A.letT [.i] (x7.1,()) fun x8=>
(A.ret [.l .u8,.i,.l .atom] (x6.2.1,x6.2.2.1,x7.2.1,())))))))))))
(A.ret [.l .u8,.i,.l .atom] (x4.2.1,x4.2.2.1,x3.2.2.2.1,())))
fun x5=>
(A.ret [.l .u8,.i,.l .atom] (x5.1,x5.2.1,x5.2.2.1,())))))))) (x2.1,x1.2.1,x1.2.2.1,x0.1,())))))))
def F_k107 (A:Alg) (p_k101:Tup A.toCar [.i,.l .u8,.i]→A.B) (f_k101:Tup A.toCar [.i,.l .u8,.i]→Tup A.toCar [.i,.l .u8,.i]) (p_k100:Tup A.toCar [.i,.l .u8,.i]→A.B) (f_k100:Tup A.toCar [.i,.l .u8,.i]→Tup A.toCar [.b,.l .u8,.i]) (p_k83:Tup A.toCar [.i]→A.B) (f_k83:Tup A.toCar [.i]→Tup A.toCar [.l .mono]) (p_k106:Tup A.toCar [.l .u8,.i]→A.B) (f_k106:Tup A.toCar [.l .u8,.i]→Tup A.toCar [.l .u8,.i,.l .atom]) (x:Tup A.toCar [.i,.l .u8,.i]):A.M (Tup A.toCar [.l .u8,.i,.l .atom]):=
(A.chk (p_k106 (x.2.1,x.2.2.1,()))
(A.letT [.l .u8,.i,.l .atom] ((f_k106 (x.2.1,x.2.2.1,())).1,(f_k106 (x.2.1,x.2.2.1,())).2.1,(f_k106 (x.2.1,x.2.2.1,())).2.2.1,()) fun x0=>
(A.chk (p_k100 (x.1,x0.1,x0.2.1,()))
(A.letT [.b,.l .u8,.i] ((f_k100 (x.1,x0.1,x0.2.1,())).1,(f_k100 (x.1,x0.1,x0.2.1,())).2.1,(f_k100 (x.1,x0.1,x0.2.1,())).2.2.1,()) fun x1=>
(A.bindS [.l .u8,.i,.l .atom]
(A.cond x1.1
(A.chk (p_k101 ((A.lit 4),x1.2.1,x1.2.2.1,()))
(A.letT [.i,.l .u8,.i] ((f_k101 ((A.lit 4),x1.2.1,x1.2.2.1,())).1,(f_k101 ((A.lit 4),x1.2.1,x1.2.2.1,())).2.1,(f_k101 ((A.lit 4),x1.2.1,x1.2.2.1,())).2.2.1,()) fun x2=>
(A.letT [.b] ((A.cmp .eql x2.1 (A.lit 0)),()) fun x3=>
(A.bind [.l .u8,.i,.l .atom]
(A.cond x3.1
(A.chk (A.cmp .leq (A.lit 0) (A.lit 0))
(A.chk (A.cmp .lss (A.lit 0) (A.len .atom x0.2.2.1))
(A.chk (A.cmp .leq (A.lit 0) (A.lit 0))
(A.chk (A.cmp .lss (A.lit 0) (A.len .atom x0.2.2.1))
(A.letT [.l .atom] ((A.lst .atom [(A.get .atom x0.2.2.1 (A.lit 0))]),()) fun x4=>
(A.chk (A.cmp .leq (A.addN (A.len .atom x0.2.2.1) (A.len .atom x4.1)) (A.lit 1073741824))
(A.letT [.l .atom] ((A.app .atom x0.2.2.1 x4.1),()) fun x5=>
(A.ret [.l .u8,.i,.l .atom] (x2.2.1,x2.2.2.1,x5.1,())))))))))
(A.letT [.b] ((A.cmp .eql x2.1 (A.lit 1)),()) fun x4=>
(A.bind [.l .u8,.i,.l .atom]
(A.cond x4.1
(A.chk (p_k83 ((A.lit 50),()))
(A.letT [.l .mono] ((f_k83 ((A.lit 50),())).1,()) fun x5=>
(A.letT [.l .atom] ((A.lst .atom [(A.mkX .atom ((A.lit 4),(A.lit 4),x5.1,(A.nilL .mono),()))]),()) fun x6=>
(A.chk (A.cmp .leq (A.addN (A.len .atom x0.2.2.1) (A.len .atom x6.1)) (A.lit 1073741824))
(A.letT [.l .atom] ((A.app .atom x0.2.2.1 x6.1),()) fun x7=>
(A.ret [.l .u8,.i,.l .atom] (x2.2.1,x2.2.2.1,x7.1,())))))))
(A.letT [.b] ((A.cmp .eql x2.1 (A.lit 2)),()) fun x5=>
(A.bind [.l .u8,.i,.l .atom]
(A.cond x5.1
(A.chk (p_k101 ((A.lit 3),x2.2.1,x2.2.2.1,()))
(A.letT [.i,.l .u8,.i] ((f_k101 ((A.lit 3),x2.2.1,x2.2.2.1,())).1,(f_k101 ((A.lit 3),x2.2.1,x2.2.2.1,())).2.1,(f_k101 ((A.lit 3),x2.2.1,x2.2.2.1,())).2.2.1,()) fun x6=>
(A.chk (A.cmp .leq (A.lit 0) x6.1)
(A.chk (A.cmp .lss x6.1 (A.len .i64 (A.lst .i64 [(A.mkX .i64 ((A.lit 0),())),(A.mkX .i64 ((A.lit 5),())),(A.mkX .i64 ((A.lit 2),()))])))
(A.chk (A.cmp .leq (A.lit 0) (A.lit 0))
(A.chk (A.cmp .lss (A.lit 0) (A.len .atom x0.2.2.1))
(A.chk (A.cmp .leq (A.lit 0) (A.lit 0))
(A.chk (A.cmp .lss (A.lit 0) (A.len .atom x0.2.2.1))
(A.letT [.i] ((A.fI .i64 0 (A.get .i64 (A.lst .i64 [(A.mkX .i64 ((A.lit 0),())),(A.mkX .i64 ((A.lit 5),())),(A.mkX .i64 ((A.lit 2),()))]) x6.1)),()) fun x7=>
(A.ret [.l .u8,.i,.l .atom] (x6.2.1,x6.2.2.1,(A.set .atom x0.2.2.1 (A.lit 0) (A.mkX .atom (x7.1,(A.fI .atom 1 (A.get .atom x0.2.2.1 (A.lit 0))),(A.fL .atom 2 .mono (A.get .atom x0.2.2.1 (A.lit 0))),(A.fL .atom 3 .mono (A.get .atom x0.2.2.1 (A.lit 0))),()))),())))))))))))
(A.letT [.l .atom] ((A.lst .atom [(A.mkX .atom ((A.lit 1),(A.lit 9),(A.nilL .mono),(A.nilL .mono),()))]),()) fun x6=>
(A.chk (A.cmp .leq (A.addN (A.len .atom x0.2.2.1) (A.len .atom x6.1)) (A.lit 1073741824))
(A.letT [.l .atom] ((A.app .atom x0.2.2.1 x6.1),()) fun x7=>
(A.ret [.l .u8,.i,.l .atom] (x2.2.1,x2.2.2.1,x7.1,()))))))
fun x6=>
(A.ret [.l .u8,.i,.l .atom] (x6.1,x6.2.1,x6.2.2.1,())))))
fun x5=>
(A.ret [.l .u8,.i,.l .atom] (x5.1,x5.2.1,x5.2.2.1,())))))
fun x4=>
(A.inl [.l .u8,.i,.l .atom] (x4.1,x4.2.1,x4.2.2.1,()))))))
(A.inl [.l .u8,.i,.l .atom] (x1.2.1,x1.2.2.1,x0.2.2.1,())))
fun x2=>
(A.ret [.l .u8,.i,.l .atom] (x2.1,x2.2.1,x2.2.2.1,())))))))
def F_k79 (A:Alg) (p_k99:Tup A.toCar [.l .u8]→A.B) (f_k99:Tup A.toCar [.l .u8]→Tup A.toCar [.l .u8,.i]) (p_k101:Tup A.toCar [.i,.l .u8,.i]→A.B) (f_k101:Tup A.toCar [.i,.l .u8,.i]→Tup A.toCar [.i,.l .u8,.i]) (p_k100:Tup A.toCar [.i,.l .u8,.i]→A.B) (f_k100:Tup A.toCar [.i,.l .u8,.i]→Tup A.toCar [.b,.l .u8,.i]) (p_k83:Tup A.toCar [.i]→A.B) (f_k83:Tup A.toCar [.i]→Tup A.toCar [.l .mono]) (p_k84:Tup A.toCar [.i]→A.B) (f_k84:Tup A.toCar [.i]→Tup A.toCar [.l .mono]) (p_k102:Tup A.toCar [.l .u8,.i]→A.B) (f_k102:Tup A.toCar [.l .u8,.i]→Tup A.toCar [.i,.l .u8,.i]) (p_k105:Tup A.toCar [.i,.l .u8,.i]→A.B) (f_k105:Tup A.toCar [.i,.l .u8,.i]→Tup A.toCar [.l .u8,.i,.l .mono]) (p_k107:Tup A.toCar [.i,.l .u8,.i]→A.B) (f_k107:Tup A.toCar [.i,.l .u8,.i]→Tup A.toCar [.l .u8,.i,.l .atom]) (x:Tup A.toCar [.l .u8]):A.M (Tup A.toCar [.i,.l .mono,.l .mono,.l .atom]):=
(A.letT [.i] ((A.lit 0),()) fun x0=>
(A.chk (p_k99 (x.1,()))
(A.letT [.l .u8,.i] ((f_k99 (x.1,())).1,(f_k99 (x.1,())).2.1,()) fun x1=>
(A.chk (p_k107 ((A.lit 20),x1.1,x1.2.1,()))
(A.letT [.l .u8,.i,.l .atom] ((f_k107 ((A.lit 20),x1.1,x1.2.1,())).1,(f_k107 ((A.lit 20),x1.1,x1.2.1,())).2.1,(f_k107 ((A.lit 20),x1.1,x1.2.1,())).2.2.1,()) fun x2=>
(A.letT [.i] ((A.len .atom x2.2.2.1),()) fun x3=>
(A.chk (p_k101 ((A.lit 5),x2.1,x2.2.1,()))
(A.letT [.i,.l .u8,.i] ((f_k101 ((A.lit 5),x2.1,x2.2.1,())).1,(f_k101 ((A.lit 5),x2.1,x2.2.1,())).2.1,(f_k101 ((A.lit 5),x2.1,x2.2.1,())).2.2.1,()) fun x4=>
(A.letT [.i] ((A.arith .add .i64 (A.lit 1) x4.1),()) fun x5=>
(A.chk (p_k100 ((A.lit 20),x4.2.1,x4.2.2.1,()))
(A.letT [.b,.l .u8,.i] ((f_k100 ((A.lit 20),x4.2.1,x4.2.2.1,())).1,(f_k100 ((A.lit 20),x4.2.1,x4.2.2.1,())).2.1,(f_k100 ((A.lit 20),x4.2.1,x4.2.2.1,())).2.2.1,()) fun x6=>
(A.bind [.i,.i,.l .u8,.i,.l .atom]
(A.cond x6.1
(A.letT [.l .i64] ((A.lst .i64 [(A.mkX .i64 ((A.lit 0),())),(A.mkX .i64 ((A.lit 6),()))]),()) fun x7=>
(A.chk (p_k101 ((A.lit 2),x6.2.1,x6.2.2.1,()))
(A.letT [.i,.l .u8,.i] ((f_k101 ((A.lit 2),x6.2.1,x6.2.2.1,())).1,(f_k101 ((A.lit 2),x6.2.1,x6.2.2.1,())).2.1,(f_k101 ((A.lit 2),x6.2.1,x6.2.2.1,())).2.2.1,()) fun x8=>
(A.chk (A.cmp .leq (A.lit 0) x8.1)
(A.chk (A.cmp .lss x8.1 (A.len .i64 x7.1))
(A.chk (A.cmp .leq (A.lit 0) x8.1)
(A.chk (A.cmp .lss x8.1 (A.len .i64 x7.1))
(A.letT [.i] ((A.fI .i64 0 (A.get .i64 x7.1 x8.1)),()) fun x9=>
(A.ret [.i,.i,.l .u8,.i,.l .atom] (x3.1,x9.1,x8.2.1,x8.2.2.1,x2.2.2.1,()))))))))))
(A.ret [.i,.i,.l .u8,.i,.l .atom] (x3.1,x5.1,x6.2.1,x6.2.2.1,x2.2.2.1,())))
fun x7=>
(A.chk (p_k105 (x7.1,x7.2.2.1,x7.2.2.2.1,()))
(A.letT [.l .u8,.i,.l .mono] ((f_k105 (x7.1,x7.2.2.1,x7.2.2.2.1,())).1,(f_k105 (x7.1,x7.2.2.1,x7.2.2.2.1,())).2.1,(f_k105 (x7.1,x7.2.2.1,x7.2.2.2.1,())).2.2.1,()) fun x8=>
(A.chk (p_k105 (x7.1,x8.1,x8.2.1,()))
(A.letT [.l .u8,.i,.l .mono] ((f_k105 (x7.1,x8.1,x8.2.1,())).1,(f_k105 (x7.1,x8.1,x8.2.1,())).2.1,(f_k105 (x7.1,x8.1,x8.2.1,())).2.2.1,()) fun x9=>
(A.chk (p_k101 ((A.lit 6),x9.1,x9.2.1,()))
(A.letT [.i,.l .u8,.i] ((f_k101 ((A.lit 6),x9.1,x9.2.1,())).1,(f_k101 ((A.lit 6),x9.1,x9.2.1,())).2.1,(f_k101 ((A.lit 6),x9.1,x9.2.1,())).2.2.1,()) fun x10=>
(A.letT [.b] ((A.cmp .eql x10.1 (A.lit 0)),()) fun x11=>
(A.bind [.i,.l .mono,.l .mono,.l .atom]
(A.cond x11.1
(A.ret [.i,.l .mono,.l .mono,.l .atom] (x7.2.1,x8.2.2.1,x8.2.2.1,x7.2.2.2.2.1,()))
(A.letT [.b] ((A.cmp .eql x10.1 (A.lit 1)),()) fun x12=>
(A.bind [.i,.l .atom,.l .mono,.l .mono]
(A.cond x12.1
(A.chk (p_k102 (x10.2.1,x10.2.2.1,()))
(A.letT [.i,.l .u8,.i] ((f_k102 (x10.2.1,x10.2.2.1,())).1,(f_k102 (x10.2.1,x10.2.2.1,())).2.1,(f_k102 (x10.2.1,x10.2.2.1,())).2.2.1,()) fun x13=>
(A.letT [.l .i64] ((A.lst .i64 [(A.mkX .i64 ((A.lit 0),())),(A.mkX .i64 ((A.lit 1),())),(A.mkX .i64 ((A.lit 65535),())),(A.mkX .i64 (x13.1,()))]),()) fun x14=>
(A.chk (p_k101 ((A.lit 4),x13.2.1,x13.2.2.1,()))
(A.letT [.i,.l .u8,.i] ((f_k101 ((A.lit 4),x13.2.1,x13.2.2.1,())).1,(f_k101 ((A.lit 4),x13.2.1,x13.2.2.1,())).2.1,(f_k101 ((A.lit 4),x13.2.1,x13.2.2.1,())).2.2.1,()) fun x15=>
(A.chk (A.cmp .leq (A.lit 0) x15.1)
(A.chk (A.cmp .lss x15.1 (A.len .i64 x14.1))
(A.chk (A.cmp .leq (A.lit 0) x15.1)
(A.chk (A.cmp .lss x15.1 (A.len .i64 x14.1))
(A.chk (p_k84 ((A.fI .i64 0 (A.get .i64 x14.1 x15.1)),()))
(A.letT [.l .mono] ((f_k84 ((A.fI .i64 0 (A.get .i64 x14.1 x15.1)),())).1,()) fun x16=>
(A.ret [.i,.l .atom,.l .mono,.l .mono] (x7.2.1,x7.2.2.2.2.1,x8.2.2.1,x16.1,())))))))))))))
(A.letT [.b] ((A.cmp .eql x10.1 (A.lit 2)),()) fun x13=>
(A.bind [.i,.l .atom,.l .mono,.l .mono]
(A.cond x13.1
(A.chk (p_k102 (x10.2.1,x10.2.2.1,()))
(A.letT [.i,.l .u8,.i] ((f_k102 (x10.2.1,x10.2.2.1,())).1,(f_k102 (x10.2.1,x10.2.2.1,())).2.1,(f_k102 (x10.2.1,x10.2.2.1,())).2.2.1,()) fun x14=>
(A.letT [.l .i64] ((A.lst .i64 [(A.mkX .i64 ((A.lit 0),())),(A.mkX .i64 ((A.lit 1),())),(A.mkX .i64 ((A.lit 65535),())),(A.mkX .i64 (x14.1,()))]),()) fun x15=>
(A.chk (p_k101 ((A.lit 4),x14.2.1,x14.2.2.1,()))
(A.letT [.i,.l .u8,.i] ((f_k101 ((A.lit 4),x14.2.1,x14.2.2.1,())).1,(f_k101 ((A.lit 4),x14.2.1,x14.2.2.1,())).2.1,(f_k101 ((A.lit 4),x14.2.1,x14.2.2.1,())).2.2.1,()) fun x16=>
(A.chk (A.cmp .leq (A.lit 0) x16.1)
(A.chk (A.cmp .lss x16.1 (A.len .i64 x15.1))
(A.chk (A.cmp .leq (A.lit 0) x16.1)
(A.chk (A.cmp .lss x16.1 (A.len .i64 x15.1))
(A.chk (p_k84 ((A.fI .i64 0 (A.get .i64 x15.1 x16.1)),()))
(A.letT [.l .mono] ((f_k84 ((A.fI .i64 0 (A.get .i64 x15.1 x16.1)),())).1,()) fun x17=>
(A.ret [.i,.l .atom,.l .mono,.l .mono] (x7.2.1,x7.2.2.2.2.1,x17.1,x9.2.2.1,())))))))))))))
(A.letT [.b] ((A.cmp .eql x10.1 (A.lit 3)),()) fun x14=>
(A.bind [.i,.l .atom,.l .mono,.l .mono]
(A.cond x14.1
(A.chk (p_k100 ((A.lit 3),x10.2.1,x10.2.2.1,()))
(A.letT [.b,.l .u8,.i] ((f_k100 ((A.lit 3),x10.2.1,x10.2.2.1,())).1,(f_k100 ((A.lit 3),x10.2.1,x10.2.2.1,())).2.1,(f_k100 ((A.lit 3),x10.2.1,x10.2.2.1,())).2.2.1,()) fun x15=>
(A.bind [.i,.l .atom,.l .mono,.l .mono]
(A.cond x15.1
(A.chk (p_k83 ((A.arith .add .i64 x7.1 (A.lit 1)),()))
(A.letT [.l .mono] ((f_k83 ((A.arith .add .i64 x7.1 (A.lit 1)),())).1,()) fun x16=>
(A.ret [.i,.l .atom,.l .mono,.l .mono] (x7.2.1,x7.2.2.2.2.1,x8.2.2.1,x16.1,()))))
(A.ret [.i,.l .atom,.l .mono,.l .mono] (x7.2.1,x7.2.2.2.2.1,x8.2.2.1,x9.2.2.1,())))
fun x16=>
(A.ret [.i,.l .atom,.l .mono,.l .mono] (x16.1,x16.2.1,x16.2.2.1,x16.2.2.2.1,())))))
(A.ret [.i,.l .atom,.l .mono,.l .mono] (x7.2.1,x7.2.2.2.2.1,x8.2.2.1,x9.2.2.1,())))
fun x15=>
(A.ret [.i,.l .atom,.l .mono,.l .mono] (x15.1,x15.2.1,x15.2.2.1,x15.2.2.2.1,())))))
fun x14=>
(A.ret [.i,.l .atom,.l .mono,.l .mono] (x14.1,x14.2.1,x14.2.2.1,x14.2.2.2.1,())))))
fun x13=>
(A.ret [.i,.l .mono,.l .mono,.l .atom] (x13.1,x13.2.2.1,x13.2.2.2.1,x13.2.1,())))))
fun x12=>
(A.letT [.i] (x12.1,()) fun x13=>
(A.ret [.i,.l .mono,.l .mono,.l .atom] (x13.1,x12.2.1,x12.2.2.1,x12.2.2.2.1,())))))))))))))))))))))))
def F_k34 (A:Alg) (x:Tup A.toCar [.i,.i,.i]):A.M (Tup A.toCar [.b]):=
(A.letT [.b] ((A.bl false),()) fun x0=>
(A.letT [.b] ((A.iteB (A.cmp .leq x.2.1 x.1) (A.cmp .leq x.1 x.2.2.1) (A.bl false)),()) fun x1=>
(A.ret [.b] (x1.1,()))))
def F_k35 (A:Alg) (p_k34:Tup A.toCar [.i,.i,.i]→A.B) (f_k34:Tup A.toCar [.i,.i,.i]→Tup A.toCar [.b]) (x:Tup A.toCar [.i]):A.M (Tup A.toCar [.b]):=
(A.letT [.b] ((A.bl false),()) fun x0=>
(A.chk (p_k34 (x.1,(A.lit 1),(A.lit 5),()))
(A.letT [.b] ((f_k34 (x.1,(A.lit 1),(A.lit 5),())).1,()) fun x1=>
(A.letT [.b] (x1.1,()) fun x2=>
(A.ret [.b] (x2.1,()))))))
def F_k15 (A:Alg) (x:Tup A.toCar [.i,.i]):A.M (Tup A.toCar [.b,.i]):=
(A.letT [.b] ((A.bl false),()) fun x0=>
(A.letT [.b] ((A.cmp .geq x.1 x.2.1),()) fun x1=>
(A.ret [.b,.i] (x1.1,x.2.1,()))))
def F_k61 (A:Alg) (p_k15:Tup A.toCar [.i,.i]→A.B) (f_k15:Tup A.toCar [.i,.i]→Tup A.toCar [.b,.i]) (x:Tup A.toCar [.l .i64,.i]):A.M (Tup A.toCar [.i,.i]):=
(A.letT [.i] ((A.lit 0),()) fun x0=>
(A.iter [.l .i64,.i,.i,.i] (fun x1=>
(A.cond (A.cmp .lss x1.2.2.1 x1.2.1)
(A.letT [.i] (x1.2.2.1,()) fun x2=>
(A.chk (A.cmp .leq (A.lit 0) x2.1)
(A.chk (A.cmp .lss x2.1 (A.len .i64 x1.1))
(A.chk (p_k15 ((A.fI .i64 0 (A.get .i64 x1.1 x2.1)),x1.2.2.2.1,()))
(A.letT [.b,.i] ((f_k15 ((A.fI .i64 0 (A.get .i64 x1.1 x2.1)),x1.2.2.2.1,())).1,(f_k15 ((A.fI .i64 0 (A.get .i64 x1.1 x2.1)),x1.2.2.2.1,())).2.1,()) fun x3=>
(A.cond x3.1
(A.letT [.i] (x2.1,()) fun x4=>
(A.inr [.l .i64,.i,.i,.i] (A.ret [.i,.i] (x4.1,x3.2.1,()))))
(A.inl [.l .i64,.i,.i,.i] (x1.1,x1.2.1,(A.arith .add .i64 x1.2.2.1 (A.lit 1)),x3.2.1,()))))))))
(A.inr [.l .i64,.i,.i,.i] (A.letT [.i] ((A.lit (-1)),()) fun x2=>
(A.ret [.i,.i] (x2.1,x1.2.2.2.1,())))))) (x.1,(A.len .i64 x.1),(A.lit 0),x.2.1,())))
def F_k56 (A:Alg) (p_k61:Tup A.toCar [.l .i64,.i]→A.B) (f_k61:Tup A.toCar [.l .i64,.i]→Tup A.toCar [.i,.i]) (x:Tup A.toCar [.l .i64,.i]):A.M (Tup A.toCar [.b,.i]):=
(A.letT [.b] ((A.bl false),()) fun x0=>
(A.chk (p_k61 (x.1,x.2.1,()))
(A.letT [.i,.i] ((f_k61 (x.1,x.2.1,())).1,(f_k61 (x.1,x.2.1,())).2.1,()) fun x1=>
(A.letT [.b] ((A.cmp .geq x1.1 (A.lit 0)),()) fun x2=>
(A.ret [.b,.i] (x2.1,x1.2.1,()))))))
def F_k14 (A:Alg) (p_k56:Tup A.toCar [.l .i64,.i]→A.B) (f_k56:Tup A.toCar [.l .i64,.i]→Tup A.toCar [.b,.i]) (x:Tup A.toCar [.x .poly,.i]):A.M (Tup A.toCar [.b]):=
(A.letT [.b] ((A.bl false),()) fun x0=>
(A.iter [.l .mono,.i,.i,.i] (fun x1=>
(A.cond (A.cmp .lss x1.2.2.1 x1.2.1)
(A.chk (A.cmp .leq (A.lit 0) x1.2.2.1)
(A.chk (A.cmp .lss x1.2.2.1 (A.len .mono x1.1))
(A.letT [.x .mono] ((A.get .mono x1.1 x1.2.2.1),()) fun x2=>
(A.chk (p_k56 ((A.fL .mono 1 .i64 x2.1),x1.2.2.2.1,()))
(A.letT [.b,.i] ((f_k56 ((A.fL .mono 1 .i64 x2.1),x1.2.2.2.1,())).1,(f_k56 ((A.fL .mono 1 .i64 x2.1),x1.2.2.2.1,())).2.1,()) fun x3=>
(A.cond x3.1
(A.letT [.b] ((A.bl false),()) fun x4=>
(A.inr [.l .mono,.i,.i,.i] (A.ret [.b] (x4.1,()))))
(A.inl [.l .mono,.i,.i,.i] (x1.1,x1.2.1,(A.arith .add .i64 x1.2.2.1 (A.lit 1)),x3.2.1,()))))))))
(A.inr [.l .mono,.i,.i,.i] (A.letT [.b] ((A.bl true),()) fun x2=>
(A.ret [.b] (x2.1,())))))) ((A.fL .poly 0 .mono x.1),(A.len .mono (A.fL .poly 0 .mono x.1)),(A.lit 0),x.2.1,())))
def F_k3 (A:Alg) (x:Tup A.toCar [.i]):A.M (Tup A.toCar [.b]):=
(A.letT [.b] ((A.bl false),()) fun x0=>
(A.letT [.b] ((A.cmp .neq x.1 x.1),()) fun x1=>
(A.ret [.b] (x1.1,()))))
def F_k1 (A:Alg) (p_k3:Tup A.toCar [.i]→A.B) (f_k3:Tup A.toCar [.i]→Tup A.toCar [.b]) (x:Tup A.toCar [.i,.i]):A.M (Tup A.toCar [.b]):=
(A.letT [.b] ((A.bl false),()) fun x0=>
(A.chk (p_k3 (x.1,()))
(A.letT [.b] ((f_k3 (x.1,())).1,()) fun x1=>
(A.chk (A.orB (A.notB x1.1) (p_k3 (x.2.1,())))
(A.letT [.b] ((f_k3 (x.2.1,())).1,()) fun x2=>
(A.letT [.b] ((A.iteB (A.iteB x1.1 (A.notB x2.1) (A.bl false)) (A.bl true) (A.cmp .lss x.1 x.2.1)),()) fun x3=>
(A.ret [.b] (x3.1,()))))))))
def F_k62 (A:Alg) (p_k1:Tup A.toCar [.i,.i]→A.B) (f_k1:Tup A.toCar [.i,.i]→Tup A.toCar [.b]) (x:Tup A.toCar [.l .i64]):A.M (Tup A.toCar [.b]):=
(A.letT [.b] ((A.bl false),()) fun x0=>
(A.letT [.i] ((A.arith .sub .i64 (A.len .i64 x.1) (A.lit 1)),()) fun x1=>
(A.iter [.l .i64,.i] (fun x2=>
(A.cond (A.cmp .gtr x2.2.1 (A.lit 0))
(A.chk (A.cmp .leq (A.lit 0) x2.2.1)
(A.chk (A.cmp .lss x2.2.1 (A.len .i64 x2.1))
(A.chk (A.cmp .leq (A.lit 0) (A.arith .sub .i64 x2.2.1 (A.lit 1)))
(A.chk (A.cmp .lss (A.arith .sub .i64 x2.2.1 (A.lit 1)) (A.len .i64 x2.1))
(A.chk (p_k1 ((A.fI .i64 0 (A.get .i64 x2.1 x2.2.1)),(A.fI .i64 0 (A.get .i64 x2.1 (A.arith .sub .i64 x2.2.1 (A.lit 1)))),()))
(A.letT [.b] ((f_k1 ((A.fI .i64 0 (A.get .i64 x2.1 x2.2.1)),(A.fI .i64 0 (A.get .i64 x2.1 (A.arith .sub .i64 x2.2.1 (A.lit 1)))),())).1,()) fun x3=>
(A.cond x3.1
(A.letT [.b] ((A.bl false),()) fun x4=>
(A.inr [.l .i64,.i] (A.ret [.b] (x4.1,()))))
(A.letT [.i] ((A.arith .sub .i64 x2.2.1 (A.lit 1)),()) fun x4=>
(A.inl [.l .i64,.i] (x2.1,x4.1,()))))))))))
(A.inr [.l .i64,.i] (A.letT [.b] ((A.bl true),()) fun x3=>
(A.ret [.b] (x3.1,())))))) (x.1,x1.1,()))))
def F_k2 (A:Alg) (x:Tup A.toCar [.l .i64]):A.M (Tup A.toCar [.i]):=
(A.letT [.i] ((A.lit 0),()) fun x0=>
(A.letT [.i] ((A.lit 0),()) fun x1=>
(A.iter [.i,.l .i64,.i,.i] (fun x2=>
(A.cond (A.cmp .lss x2.2.2.2.1 x2.2.2.1)
(A.chk (A.cmp .leq (A.lit 0) x2.2.2.2.1)
(A.chk (A.cmp .lss x2.2.2.2.1 (A.len .i64 x2.2.1))
(A.letT [.i] ((A.fI .i64 0 (A.get .i64 x2.2.1 x2.2.2.2.1)),()) fun x3=>
(A.cond (A.cmp .neq x3.1 x2.1)
(A.letT [.i] (x3.1,()) fun x4=>
(A.inr [.i,.l .i64,.i,.i] (A.ret [.i] (x4.1,()))))
(A.inl [.i,.l .i64,.i,.i] (x2.1,x2.2.1,x2.2.2.1,(A.arith .add .i64 x2.2.2.2.1 (A.lit 1)),()))))))
(A.inr [.i,.l .i64,.i,.i] (A.letT [.i] (x2.1,()) fun x3=>
(A.ret [.i] (x3.1,())))))) (x1.1,x.1,(A.len .i64 x.1),(A.lit 0),()))))
def F_k0 (A:Alg) (p_k3:Tup A.toCar [.i]→A.B) (f_k3:Tup A.toCar [.i]→Tup A.toCar [.b]) (x:Tup A.toCar [.i,.i]):A.M (Tup A.toCar [.i]):=
(A.letT [.i] ((A.lit 0),()) fun x0=>
(A.chk (p_k3 (x.1,()))
(A.letT [.b] ((f_k3 (x.1,())).1,()) fun x1=>
(A.letT [.b] (x1.1,()) fun x2=>
(A.chk (p_k3 (x.2.1,()))
(A.letT [.b] ((f_k3 (x.2.1,())).1,()) fun x3=>
(A.letT [.b] (x3.1,()) fun x4=>
(A.cond x2.1
(A.cond x4.1
(A.letT [.i] ((A.lit 0),()) fun x5=>
(A.ret [.i] (x5.1,())))
(A.letT [.i] ((A.lit (-1)),()) fun x5=>
(A.ret [.i] (x5.1,()))))
(A.cond x4.1
(A.letT [.i] ((A.lit 1),()) fun x5=>
(A.ret [.i] (x5.1,())))
(A.cond (A.cmp .lss x.1 x.2.1)
(A.letT [.i] ((A.lit (-1)),()) fun x5=>
(A.ret [.i] (x5.1,())))
(A.cond (A.cmp .gtr x.1 x.2.1)
(A.letT [.i] ((A.lit 1),()) fun x5=>
(A.ret [.i] (x5.1,())))
(A.letT [.i] ((A.lit 0),()) fun x5=>
(A.ret [.i] (x5.1,()))))))))))))))
def F_k52 (A:Alg) (p_k0:Tup A.toCar [.i,.i]→A.B) (f_k0:Tup A.toCar [.i,.i]→Tup A.toCar [.i]) (x:Tup A.toCar [.l .i64,.l .i64]):A.M (Tup A.toCar [.i]):=
(A.letT [.i] ((A.lit 0),()) fun x0=>
(A.iter [.l .i64,.l .i64,.l .i64,.i,.i] (fun x1=>
(A.cond (A.cmp .lss x1.2.2.2.2.1 x1.2.2.2.1)
(A.chk (A.cmp .leq (A.lit 0) x1.2.2.2.2.1)
(A.chk (A.cmp .lss x1.2.2.2.2.1 (A.len .i64 x1.2.2.1))
(A.letT [.i] (x1.2.2.2.2.1,()) fun x2=>
(A.letT [.i] ((A.fI .i64 0 (A.get .i64 x1.2.2.1 x1.2.2.2.2.1)),()) fun x3=>
(A.cond (A.cmp .geq x2.1 (A.len .i64 x1.2.1))
(A.letT [.i] ((A.lit 1),()) fun x4=>
(A.inr [.l .i64,.l .i64,.l .i64,.i,.i] (A.ret [.i] (x4.1,()))))
(A.chk (A.cmp .leq (A.lit 0) x2.1)
(A.chk (A.cmp .lss x2.1 (A.len .i64 x1.2.1))
(A.letT [.i] ((A.fI .i64 0 (A.get .i64 x1.2.1 x2.1)),()) fun x4=>
(A.chk (p_k0 (x3.1,x4.1,()))
(A.letT [.i] ((f_k0 (x3.1,x4.1,())).1,()) fun x5=>
(A.letT [.i] (x5.1,()) fun x6=>
(A.cond (A.cmp .neq x6.1 (A.lit 0))
(A.letT [.i] (x6.1,()) fun x7=>
(A.inr [.l .i64,.l .i64,.l .i64,.i,.i] (A.ret [.i] (x7.1,()))))
(A.inl [.l .i64,.l .i64,.l .i64,.i,.i] (x1.1,x1.2.1,x1.2.2.1,x1.2.2.2.1,(A.arith .add .i64 x1.2.2.2.2.1 (A.lit 1)),()))))))))))))))
(A.inr [.l .i64,.l .i64,.l .i64,.i,.i] (A.cond (A.cmp .lss (A.len .i64 x1.1) (A.len .i64 x1.2.1))
(A.letT [.i] ((A.lit (-1)),()) fun x2=>
(A.ret [.i] (x2.1,())))
(A.letT [.i] ((A.lit 0),()) fun x2=>
(A.ret [.i] (x2.1,()))))))) (x.1,x.2.1,x.1,(A.len .i64 x.1),(A.lit 0),())))
def F_k32 (A:Alg) (p_k2:Tup A.toCar [.l .i64]→A.B) (f_k2:Tup A.toCar [.l .i64]→Tup A.toCar [.i]) (p_k0:Tup A.toCar [.i,.i]→A.B) (f_k0:Tup A.toCar [.i,.i]→Tup A.toCar [.i]) (p_k52:Tup A.toCar [.l .i64,.l .i64]→A.B) (f_k52:Tup A.toCar [.l .i64,.l .i64]→Tup A.toCar [.i]) (x:Tup A.toCar [.l .i64,.l .i64]):A.M (Tup A.toCar [.i]):=
(A.letT [.i] ((A.lit 0),()) fun x0=>
(A.chk (p_k0 ((A.len .i64 x.1),(A.len .i64 x.2.1),()))
(A.letT [.i] ((f_k0 ((A.len .i64 x.1),(A.len .i64 x.2.1),())).1,()) fun x1=>
(A.chk (p_k52 (x.1,x.2.1,()))
(A.letT [.i] ((f_k52 (x.1,x.2.1,())).1,()) fun x2=>
(A.letT [.l .i64] ((A.lst .i64 [(A.mkX .i64 (x1.1,())),(A.mkX .i64 (x2.1,()))]),()) fun x3=>
(A.chk (p_k2 (x3.1,()))
(A.letT [.i] ((f_k2 (x3.1,())).1,()) fun x4=>
(A.letT [.i] (x4.1,()) fun x5=>
(A.ret [.i] (x5.1,())))))))))))
def F_k11 (A:Alg) (x:Tup A.toCar [.x .mono]):A.M (Tup A.toCar [.b]):=
(A.letT [.b] ((A.bl false),()) fun x0=>
(A.chk (A.orB (A.notB (A.cmp .gtr (A.len .i64 (A.fL .mono 1 .i64 x.1)) (A.lit 0))) (A.cmp .leq (A.lit 0) (A.lit 0)))
(A.chk (A.orB (A.notB (A.cmp .gtr (A.len .i64 (A.fL .mono 1 .i64 x.1)) (A.lit 0))) (A.cmp .lss (A.lit 0) (A.len .i64 (A.fL .mono 1 .i64 x.1))))
(A.letT [.b] ((A.iteB (A.cmp .gtr (A.len .i64 (A.fL .mono 1 .i64 x.1)) (A.lit 0)) (A.cmp .lss (A.fI .i64 0 (A.get .i64 (A.fL .mono 1 .i64 x.1) (A.lit 0))) (A.lit 0)) (A.bl false)),()) fun x1=>
(A.ret [.b] (x1.1,()))))))
def F_k60 (A:Alg) (p_k11:Tup A.toCar [.x .mono]→A.B) (f_k11:Tup A.toCar [.x .mono]→Tup A.toCar [.b]) (x:Tup A.toCar [.l .mono]):A.M (Tup A.toCar [.i]):=
(A.letT [.i] ((A.lit 0),()) fun x0=>
(A.iter [.l .mono,.i,.i] (fun x1=>
(A.cond (A.cmp .lss x1.2.2.1 x1.2.1)
(A.letT [.i] (x1.2.2.1,()) fun x2=>
(A.chk (A.cmp .leq (A.lit 0) x2.1)
(A.chk (A.cmp .lss x2.1 (A.len .mono x1.1))
(A.chk (p_k11 ((A.get .mono x1.1 x2.1),()))
(A.letT [.b] ((f_k11 ((A.get .mono x1.1 x2.1),())).1,()) fun x3=>
(A.cond x3.1
(A.letT [.i] (x2.1,()) fun x4=>
(A.inr [.l .mono,.i,.i] (A.ret [.i] (x4.1,()))))
(A.inl [.l .mono,.i,.i] (x1.1,x1.2.1,(A.arith .add .i64 x1.2.2.1 (A.lit 1)),()))))))))
(A.inr [.l .mono,.i,.i] (A.letT [.i] ((A.lit (-1)),()) fun x2=>
(A.ret [.i] (x2.1,())))))) (x.1,(A.len .mono x.1),(A.lit 0),())))
def F_k55 (A:Alg) (p_k60:Tup A.toCar [.l .mono]→A.B) (f_k60:Tup A.toCar [.l .mono]→Tup A.toCar [.i]) (x:Tup A.toCar [.l .mono]):A.M (Tup A.toCar [.b]):=
(A.letT [.b] ((A.bl false),()) fun x0=>
(A.chk (p_k60 (x.1,()))
(A.letT [.i] ((f_k60 (x.1,())).1,()) fun x1=>
(A.letT [.b] ((A.cmp .geq x1.1 (A.lit 0)),()) fun x2=>
(A.ret [.b] (x2.1,()))))))
def F_k10 (A:Alg) (p_k34:Tup A.toCar [.i,.i,.i]→A.B) (f_k34:Tup A.toCar [.i,.i,.i]→Tup A.toCar [.b]) (p_k14:Tup A.toCar [.x .poly,.i]→A.B) (f_k14:Tup A.toCar [.x .poly,.i]→Tup A.toCar [.b]) (p_k62:Tup A.toCar [.l .i64]→A.B) (f_k62:Tup A.toCar [.l .i64]→Tup A.toCar [.b]) (p_k32:Tup A.toCar [.l .i64,.l .i64]→A.B) (f_k32:Tup A.toCar [.l .i64,.l .i64]→Tup A.toCar [.i]) (p_k55:Tup A.toCar [.l .mono]→A.B) (f_k55:Tup A.toCar [.l .mono]→Tup A.toCar [.b]) (x:Tup A.toCar [.x .poly]):A.M (Tup A.toCar [.b]):=
(A.letT [.b] ((A.bl false),()) fun x0=>
(A.iter [.l .mono,.i,.i,.x .poly] (fun x1=>
(A.cond (A.cmp .lss x1.2.2.1 x1.2.1)
(A.chk (A.cmp .leq (A.lit 0) x1.2.2.1)
(A.chk (A.cmp .lss x1.2.2.1 (A.len .mono x1.1))
(A.letT [.i] (x1.2.2.1,()) fun x2=>
(A.letT [.x .mono] ((A.get .mono x1.1 x1.2.2.1),()) fun x3=>
(A.chk (p_k34 ((A.fI .mono 0 x3.1),(A.lit 1),(A.lit 65535),()))
(A.letT [.b] ((f_k34 ((A.fI .mono 0 x3.1),(A.lit 1),(A.lit 65535),())).1,()) fun x4=>
(A.chk (A.orB (A.notB (A.notB (A.iteB (A.notB x4.1) (A.bl true) (A.cmp .gtr (A.len .i64 (A.fL .mono 1 .i64 x3.1)) (A.lit 4))))) (p_k62 ((A.fL .mono 1 .i64 x3.1),())))
(A.letT [.b] ((f_k62 ((A.fL .mono 1 .i64 x3.1),())).1,()) fun x5=>
(A.chk (A.orB (A.notB (A.andB (A.notB (A.iteB (A.iteB (A.notB x4.1) (A.bl true) (A.cmp .gtr (A.len .i64 (A.fL .mono 1 .i64 x3.1)) (A.lit 4))) (A.bl true) (A.notB x5.1))) (A.cmp .gtr x2.1 (A.lit 0)))) (A.cmp .leq (A.lit 0) (A.arith .sub .i64 x2.1 (A.lit 1))))
(A.chk (A.orB (A.notB (A.andB (A.notB (A.iteB (A.iteB (A.notB x4.1) (A.bl true) (A.cmp .gtr (A.len .i64 (A.fL .mono 1 .i64 x3.1)) (A.lit 4))) (A.bl true) (A.notB x5.1))) (A.cmp .gtr x2.1 (A.lit 0)))) (A.cmp .lss (A.arith .sub .i64 x2.1 (A.lit 1)) (A.len .mono (A.fL .poly 0 .mono x1.2.2.2.1))))
(A.chk (A.orB (A.notB (A.andB (A.notB (A.iteB (A.iteB (A.notB x4.1) (A.bl true) (A.cmp .gtr (A.len .i64 (A.fL .mono 1 .i64 x3.1)) (A.lit 4))) (A.bl true) (A.notB x5.1))) (A.cmp .gtr x2.1 (A.lit 0)))) (p_k32 ((A.fL .mono 1 .i64 (A.get .mono (A.fL .poly 0 .mono x1.2.2.2.1) (A.arith .sub .i64 x2.1 (A.lit 1)))),(A.fL .mono 1 .i64 x3.1),())))
(A.letT [.i] ((f_k32 ((A.fL .mono 1 .i64 (A.get .mono (A.fL .poly 0 .mono x1.2.2.2.1) (A.arith .sub .i64 x2.1 (A.lit 1)))),(A.fL .mono 1 .i64 x3.1),())).1,()) fun x6=>
(A.cond (A.iteB (A.iteB (A.iteB (A.notB x4.1) (A.bl true) (A.cmp .gtr (A.len .i64 (A.fL .mono 1 .i64 x3.1)) (A.lit 4))) (A.bl true) (A.notB x5.1)) (A.bl true) (A.iteB (A.cmp .gtr x2.1 (A.lit 0)) (A.cmp .geq x6.1 (A.lit 0)) (A.bl false)))
(A.letT [.b] ((A.bl false),()) fun x7=>
(A.inr [.l .mono,.i,.i,.x .poly] (A.ret [.b] (x7.1,()))))
(A.inl [.l .mono,.i,.i,.x .poly] (x1.1,x1.2.1,(A.arith .add .i64 x1.2.2.1 (A.lit 1)),x1.2.2.2.1,())))))))))))))))
(A.inr [.l .mono,.i,.i,.x .poly] (A.chk (A.orB (A.notB (A.cmp .leq (A.len .mono (A.fL .poly 0 .mono x1.2.2.2.1)) (A.lit 12))) (p_k14 (x1.2.2.2.1,(A.lit 200),())))
(A.letT [.b] ((f_k14 (x1.2.2.2.1,(A.lit 200),())).1,()) fun x2=>
(A.chk (A.orB (A.notB (A.iteB (A.cmp .leq (A.len .mono (A.fL .poly 0 .mono x1.2.2.2.1)) (A.lit 12)) x2.1 (A.bl false))) (p_k55 ((A.fL .poly 0 .mono x1.2.2.2.1),())))
(A.letT [.b] ((f_k55 ((A.fL .poly 0 .mono x1.2.2.2.1),())).1,()) fun x3=>
(A.letT [.b] ((A.iteB (A.iteB (A.cmp .leq (A.len .mono (A.fL .poly 0 .mono x1.2.2.2.1)) (A.lit 12)) x2.1 (A.bl false)) (A.notB x3.1) (A.bl false)),()) fun x4=>
(A.ret [.b] (x4.1,())))))))))) ((A.fL .poly 0 .mono x.1),(A.len .mono (A.fL .poly 0 .mono x.1)),(A.lit 0),x.1,())))
def F_k36 (A:Alg) (p_k34:Tup A.toCar [.i,.i,.i]→A.B) (f_k34:Tup A.toCar [.i,.i,.i]→Tup A.toCar [.b]) (x:Tup A.toCar [.i]):A.M (Tup A.toCar [.b]):=
(A.letT [.b] ((A.bl false),()) fun x0=>
(A.chk (p_k34 (x.1,(A.lit 0),(A.lit 3),()))
(A.letT [.b] ((f_k34 (x.1,(A.lit 0),(A.lit 3),())).1,()) fun x1=>
(A.letT [.b] (x1.1,()) fun x2=>
(A.ret [.b] (x2.1,()))))))
def F_k16 (A:Alg) (p_k34:Tup A.toCar [.i,.i,.i]→A.B) (f_k34:Tup A.toCar [.i,.i,.i]→Tup A.toCar [.b]) (p_k35:Tup A.toCar [.i]→A.B) (f_k35:Tup A.toCar [.i]→Tup A.toCar [.b]) (p_k14:Tup A.toCar [.x .poly,.i]→A.B) (f_k14:Tup A.toCar [.x .poly,.i]→Tup A.toCar [.b]) (p_k10:Tup A.toCar [.x .poly]→A.B) (f_k10:Tup A.toCar [.x .poly]→Tup A.toCar [.b]) (p_k36:Tup A.toCar [.i]→A.B) (f_k36:Tup A.toCar [.i]→Tup A.toCar [.b]) (x:Tup A.toCar [.x .atom,.i]):A.M (Tup A.toCar [.b]):=
(A.letT [.b] ((A.bl false),()) fun x0=>
(A.cond (A.cmp .eql (A.fI .atom 0 x.1) (A.lit 4))
(A.chk (p_k35 ((A.fI .atom 1 x.1),()))
(A.letT [.b] ((f_k35 ((A.fI .atom 1 x.1),())).1,()) fun x1=>
(A.chk (A.orB (A.notB x1.1) (p_k10 ((A.mkX .poly ((A.fL .atom 2 .mono x.1),())),())))
(A.letT [.b] ((f_k10 ((A.mkX .poly ((A.fL .atom 2 .mono x.1),())),())).1,()) fun x2=>
(A.chk (A.orB (A.notB (A.iteB x1.1 x2.1 (A.bl false))) (p_k10 ((A.mkX .poly ((A.fL .atom 3 .mono x.1),())),())))
(A.letT [.b] ((f_k10 ((A.mkX .poly ((A.fL .atom 3 .mono x.1),())),())).1,()) fun x3=>
(A.chk (A.orB (A.notB (A.iteB (A.iteB x1.1 x2.1 (A.bl false)) x3.1 (A.bl false))) (p_k14 ((A.mkX .poly ((A.fL .atom 2 .mono x.1),())),x.2.1,())))
(A.letT [.b] ((f_k14 ((A.mkX .poly ((A.fL .atom 2 .mono x.1),())),x.2.1,())).1,()) fun x4=>
(A.chk (A.orB (A.notB (A.iteB (A.iteB (A.iteB x1.1 x2.1 (A.bl false)) x3.1 (A.bl false)) x4.1 (A.bl false))) (p_k14 ((A.mkX .poly ((A.fL .atom 3 .mono x.1),())),x.2.1,())))
(A.letT [.b] ((f_k14 ((A.mkX .poly ((A.fL .atom 3 .mono x.1),())),x.2.1,())).1,()) fun x5=>
(A.letT [.b] ((A.iteB (A.iteB (A.iteB (A.iteB x1.1 x2.1 (A.bl false)) x3.1 (A.bl false)) x4.1 (A.bl false)) x5.1 (A.bl false)),()) fun x6=>
(A.ret [.b] (x6.1,())))))))))))))
(A.cond (A.cmp .gtr (A.arith .add .i64 (A.len .mono (A.fL .atom 2 .mono x.1)) (A.len .mono (A.fL .atom 3 .mono x.1))) (A.lit 0))
(A.letT [.b] ((A.bl false),()) fun x1=>
(A.ret [.b] (x1.1,())))
(A.chk (A.orB (A.notB (A.cmp .eql (A.fI .atom 0 x.1) (A.lit 1))) (p_k36 ((A.fI .atom 1 x.1),())))
(A.letT [.b] ((f_k36 ((A.fI .atom 1 x.1),())).1,()) fun x1=>
(A.chk (A.orB (A.notB (A.andB (A.notB (A.iteB (A.cmp .eql (A.fI .atom 0 x.1) (A.lit 1)) x1.1 (A.bl false))) (A.iteB (A.cmp .eql (A.fI .atom 0 x.1) (A.lit 2)) (A.bl true) (A.cmp .eql (A.fI .atom 0 x.1) (A.lit 3))))) (p_k34 ((A.fI .atom 1 x.1),(A.lit 0),(A.lit 199),())))
(A.letT [.b] ((f_k34 ((A.fI .atom 1 x.1),(A.lit 0),(A.lit 199),())).1,()) fun x2=>
(A.letT [.b] ((A.iteB (A.iteB (A.cmp .eql (A.fI .atom 0 x.1) (A.lit 1)) x1.1 (A.bl false)) (A.bl true) (A.iteB (A.iteB (A.cmp .eql (A.fI .atom 0 x.1) (A.lit 2)) (A.bl true) (A.cmp .eql (A.fI .atom 0 x.1) (A.lit 3))) x2.1 (A.bl false))),()) fun x3=>
(A.ret [.b] (x3.1,()))))))))))
def F_k12 (A:Alg) (p_k2:Tup A.toCar [.l .i64]→A.B) (f_k2:Tup A.toCar [.l .i64]→Tup A.toCar [.i]) (p_k0:Tup A.toCar [.i,.i]→A.B) (f_k0:Tup A.toCar [.i,.i]→Tup A.toCar [.i]) (p_k32:Tup A.toCar [.l .i64,.l .i64]→A.B) (f_k32:Tup A.toCar [.l .i64,.l .i64]→Tup A.toCar [.i]) (x:Tup A.toCar [.x .poly,.x .poly]):A.M (Tup A.toCar [.i]):=
(A.letT [.i] ((A.lit 0),()) fun x0=>
(A.chk (p_k0 ((A.len .mono (A.fL .poly 0 .mono x.1)),(A.len .mono (A.fL .poly 0 .mono x.2.1)),()))
(A.letT [.i] ((f_k0 ((A.len .mono (A.fL .poly 0 .mono x.1)),(A.len .mono (A.fL .poly 0 .mono x.2.1)),())).1,()) fun x1=>
(A.letT [.i] (x1.1,()) fun x2=>
(A.cond (A.cmp .neq x2.1 (A.lit 0))
(A.letT [.i] (x2.1,()) fun x3=>
(A.ret [.i] (x3.1,())))
(A.iter [.l .mono,.i,.i,.x .poly] (fun x3=>
(A.cond (A.cmp .lss x3.2.2.1 x3.2.1)
(A.chk (A.cmp .leq (A.lit 0) x3.2.2.1)
(A.chk (A.cmp .lss x3.2.2.1 (A.len .mono x3.1))
(A.letT [.i] (x3.2.2.1,()) fun x4=>
(A.letT [.x .mono] ((A.get .mono x3.1 x3.2.2.1),()) fun x5=>
(A.chk (A.cmp .leq (A.lit 0) x4.1)
(A.chk (A.cmp .lss x4.1 (A.len .mono (A.fL .poly 0 .mono x3.2.2.2.1)))
(A.chk (A.cmp .leq (A.lit 0) x4.1)
(A.chk (A.cmp .lss x4.1 (A.len .mono (A.fL .poly 0 .mono x3.2.2.2.1)))
(A.chk (p_k32 ((A.fL .mono 1 .i64 x5.1),(A.fL .mono 1 .i64 (A.get .mono (A.fL .poly 0 .mono x3.2.2.2.1) x4.1)),()))
(A.letT [.i] ((f_k32 ((A.fL .mono 1 .i64 x5.1),(A.fL .mono 1 .i64 (A.get .mono (A.fL .poly 0 .mono x3.2.2.2.1) x4.1)),())).1,()) fun x6=>
(A.chk (p_k0 ((A.fI .mono 0 x5.1),(A.fI .mono 0 (A.get .mono (A.fL .poly 0 .mono x3.2.2.2.1) x4.1)),()))
(A.letT [.i] ((f_k0 ((A.fI .mono 0 x5.1),(A.fI .mono 0 (A.get .mono (A.fL .poly 0 .mono x3.2.2.2.1) x4.1)),())).1,()) fun x7=>
(A.chk (p_k2 ((A.lst .i64 [(A.mkX .i64 (x6.1,())),(A.mkX .i64 (x7.1,()))]),()))
(A.letT [.i] ((f_k2 ((A.lst .i64 [(A.mkX .i64 (x6.1,())),(A.mkX .i64 (x7.1,()))]),())).1,()) fun x8=>
(A.letT [.i] (x8.1,()) fun x9=>
(A.cond (A.cmp .neq x9.1 (A.lit 0))
(A.letT [.i] (x9.1,()) fun x10=>
(A.inr [.l .mono,.i,.i,.x .poly] (A.ret [.i] (x10.1,()))))
(A.inl [.l .mono,.i,.i,.x .poly] (x3.1,x3.2.1,(A.arith .add .i64 x3.2.2.1 (A.lit 1)),x3.2.2.2.1,()))))))))))))))))))
(A.inr [.l .mono,.i,.i,.x .poly] (A.letT [.i] ((A.lit 0),()) fun x4=>
(A.ret [.i] (x4.1,())))))) ((A.fL .poly 0 .mono x.1),(A.len .mono (A.fL .poly 0 .mono x.1)),(A.lit 0),x.2.1,())))))))
def F_k28 (A:Alg) (p_k12:Tup A.toCar [.x .poly,.x .poly]→A.B) (f_k12:Tup A.toCar [.x .poly,.x .poly]→Tup A.toCar [.i]) (x:Tup A.toCar [.x .poly,.x .poly]):A.M (Tup A.toCar [.b]):=
(A.letT [.b] ((A.bl false),()) fun x0=>
(A.chk (p_k12 (x.1,x.2.1,()))
(A.letT [.i] ((f_k12 (x.1,x.2.1,())).1,()) fun x1=>
(A.letT [.b] ((A.cmp .eql x1.1 (A.lit 0)),()) fun x2=>
(A.ret [.b] (x2.1,()))))))
def F_k17 (A:Alg) (p_k28:Tup A.toCar [.x .poly,.x .poly]→A.B) (f_k28:Tup A.toCar [.x .poly,.x .poly]→Tup A.toCar [.b]) (x:Tup A.toCar [.x .atom,.x .atom]):A.M (Tup A.toCar [.b]):=
(A.letT [.b] ((A.bl false),()) fun x0=>
(A.chk (A.orB (A.notB (A.iteB (A.cmp .eql (A.fI .atom 0 x.1) (A.fI .atom 0 x.2.1)) (A.cmp .eql (A.fI .atom 1 x.1) (A.fI .atom 1 x.2.1)) (A.bl false))) (p_k28 ((A.mkX .poly ((A.fL .atom 2 .mono x.1),())),(A.mkX .poly ((A.fL .atom 2 .mono x.2.1),())),())))
(A.letT [.b] ((f_k28 ((A.mkX .poly ((A.fL .atom 2 .mono x.1),())),(A.mkX .poly ((A.fL .atom 2 .mono x.2.1),())),())).1,()) fun x1=>
(A.chk (A.orB (A.notB (A.iteB (A.iteB (A.cmp .eql (A.fI .atom 0 x.1) (A.fI .atom 0 x.2.1)) (A.cmp .eql (A.fI .atom 1 x.1) (A.fI .atom 1 x.2.1)) (A.bl false)) x1.1 (A.bl false))) (p_k28 ((A.mkX .poly ((A.fL .atom 3 .mono x.1),())),(A.mkX .poly ((A.fL .atom 3 .mono x.2.1),())),())))
(A.letT [.b] ((f_k28 ((A.mkX .poly ((A.fL .atom 3 .mono x.1),())),(A.mkX .poly ((A.fL .atom 3 .mono x.2.1),())),())).1,()) fun x2=>
(A.letT [.b] ((A.iteB (A.iteB (A.iteB (A.cmp .eql (A.fI .atom 0 x.1) (A.fI .atom 0 x.2.1)) (A.cmp .eql (A.fI .atom 1 x.1) (A.fI .atom 1 x.2.1)) (A.bl false)) x1.1 (A.bl false)) x2.1 (A.bl false)),()) fun x3=>
(A.ret [.b] (x3.1,()))))))))
def F_k23 (A:Alg) (p_k17:Tup A.toCar [.x .atom,.x .atom]→A.B) (f_k17:Tup A.toCar [.x .atom,.x .atom]→Tup A.toCar [.b]) (x:Tup A.toCar [.x .atom,.x .atom]):A.M (Tup A.toCar [.b,.x .atom]):=
(A.letT [.b] ((A.bl false),()) fun x0=>
(A.chk (p_k17 (x.2.1,x.1,()))
(A.letT [.b] ((f_k17 (x.2.1,x.1,())).1,()) fun x1=>
(A.letT [.b] (x1.1,()) fun x2=>
(A.ret [.b,.x .atom] (x2.1,x.2.1,()))))))
def F_k59 (A:Alg) (p_k23:Tup A.toCar [.x .atom,.x .atom]→A.B) (f_k23:Tup A.toCar [.x .atom,.x .atom]→Tup A.toCar [.b,.x .atom]) (x:Tup A.toCar [.l .atom,.x .atom]):A.M (Tup A.toCar [.i,.x .atom]):=
(A.letT [.i] ((A.lit 0),()) fun x0=>
(A.iter [.l .atom,.i,.i,.x .atom] (fun x1=>
(A.cond (A.cmp .lss x1.2.2.1 x1.2.1)
(A.letT [.i] (x1.2.2.1,()) fun x2=>
(A.chk (A.cmp .leq (A.lit 0) x2.1)
(A.chk (A.cmp .lss x2.1 (A.len .atom x1.1))
(A.chk (p_k23 ((A.get .atom x1.1 x2.1),x1.2.2.2.1,()))
(A.letT [.b,.x .atom] ((f_k23 ((A.get .atom x1.1 x2.1),x1.2.2.2.1,())).1,(f_k23 ((A.get .atom x1.1 x2.1),x1.2.2.2.1,())).2.1,()) fun x3=>
(A.cond x3.1
(A.letT [.i] (x2.1,()) fun x4=>
(A.inr [.l .atom,.i,.i,.x .atom] (A.ret [.i,.x .atom] (x4.1,x3.2.1,()))))
(A.inl [.l .atom,.i,.i,.x .atom] (x1.1,x1.2.1,(A.arith .add .i64 x1.2.2.1 (A.lit 1)),x3.2.1,()))))))))
(A.inr [.l .atom,.i,.i,.x .atom] (A.letT [.i] ((A.lit (-1)),()) fun x2=>
(A.ret [.i,.x .atom] (x2.1,x1.2.2.2.1,())))))) (x.1,(A.len .atom x.1),(A.lit 0),x.2.1,())))
def F_k22 (A:Alg) (p_k59:Tup A.toCar [.l .atom,.x .atom]→A.B) (f_k59:Tup A.toCar [.l .atom,.x .atom]→Tup A.toCar [.i,.x .atom]) (x:Tup A.toCar [.x .tab,.x .atom]):A.M (Tup A.toCar [.i]):=
(A.letT [.i] ((A.lit 0),()) fun x0=>
(A.chk (p_k59 ((A.fL .tab 0 .atom x.1),x.2.1,()))
(A.letT [.i,.x .atom] ((f_k59 ((A.fL .tab 0 .atom x.1),x.2.1,())).1,(f_k59 ((A.fL .tab 0 .atom x.1),x.2.1,())).2.1,()) fun x1=>
(A.letT [.i] (x1.1,()) fun x2=>
(A.ret [.i] (x2.1,()))))))
def F_k19 (A:Alg) (p_k16:Tup A.toCar [.x .atom,.i]→A.B) (f_k16:Tup A.toCar [.x .atom,.i]→Tup A.toCar [.b]) (p_k22:Tup A.toCar [.x .tab,.x .atom]→A.B) (f_k22:Tup A.toCar [.x .tab,.x .atom]→Tup A.toCar [.i]) (x:Tup A.toCar [.x .tab]):A.M (Tup A.toCar [.b]):=
(A.letT [.b] ((A.bl false),()) fun x0=>
(A.iter [.l .atom,.i,.i,.x .tab] (fun x1=>
(A.cond (A.cmp .lss x1.2.2.1 x1.2.1)
(A.chk (A.cmp .leq (A.lit 0) x1.2.2.1)
(A.chk (A.cmp .lss x1.2.2.1 (A.len .atom x1.1))
(A.letT [.i] (x1.2.2.1,()) fun x2=>
(A.letT [.x .atom] ((A.get .atom x1.1 x1.2.2.1),()) fun x3=>
(A.chk (p_k16 (x3.1,x2.1,()))
(A.letT [.b] ((f_k16 (x3.1,x2.1,())).1,()) fun x4=>
(A.chk (A.orB (A.notB (A.notB (A.notB x4.1))) (p_k22 (x1.2.2.2.1,x3.1,())))
(A.letT [.i] ((f_k22 (x1.2.2.2.1,x3.1,())).1,()) fun x5=>
(A.cond (A.iteB (A.notB x4.1) (A.bl true) (A.cmp .neq x5.1 x2.1))
(A.letT [.b] ((A.bl false),()) fun x6=>
(A.inr [.l .atom,.i,.i,.x .tab] (A.ret [.b] (x6.1,()))))
(A.inl [.l .atom,.i,.i,.x .tab] (x1.1,x1.2.1,(A.arith .add .i64 x1.2.2.1 (A.lit 1)),x1.2.2.2.1,())))))))))))
(A.inr [.l .atom,.i,.i,.x .tab] (A.letT [.b] ((A.cmp .leq (A.len .atom (A.fL .tab 0 .atom x1.2.2.2.1)) (A.lit 200)),()) fun x2=>
(A.ret [.b] (x2.1,())))))) ((A.fL .tab 0 .atom x.1),(A.len .atom (A.fL .tab 0 .atom x.1)),(A.lit 0),x.1,())))
def F_k6 (A:Alg) (p_k34:Tup A.toCar [.i,.i,.i]→A.B) (f_k34:Tup A.toCar [.i,.i,.i]→Tup A.toCar [.b]) (x:Tup A.toCar [.i]):A.M (Tup A.toCar [.l .mono]):=
(A.chk (p_k34 (x.1,(A.lit 1),(A.lit 65535),()))
(A.letT [.b] ((f_k34 (x.1,(A.lit 1),(A.lit 65535),())).1,()) fun x0=>
(A.cond (A.notB x0.1)
(A.ret [.l .mono] ((A.nilL .mono),()))
(A.letT [.l .mono] ((A.lst .mono [(A.mkX .mono (x.1,(A.nilL .i64),()))]),()) fun x1=>
(A.ret [.l .mono] (x1.1,()))))))
def F_k30 (A:Alg) (p_k34:Tup A.toCar [.i,.i,.i]→A.B) (f_k34:Tup A.toCar [.i,.i,.i]→Tup A.toCar [.b]) (x:Tup A.toCar [.i]):A.M (Tup A.toCar [.b]):=
(A.letT [.b] ((A.bl false),()) fun x0=>
(A.chk (p_k34 (x.1,(A.lit 0),(A.lit 65535),()))
(A.letT [.b] ((f_k34 (x.1,(A.lit 0),(A.lit 65535),())).1,()) fun x1=>
(A.letT [.b] (x1.1,()) fun x2=>
(A.ret [.b] (x2.1,()))))))
def F_k31 (A:Alg) (x:Tup A.toCar [.i]):A.M (Tup A.toCar [.i]):=
(A.letT [.i] ((A.lit 0),()) fun x0=>
(A.letT [.i] ((A.arith .and .i64 x.1 (A.lit 65535)),()) fun x1=>
(A.ret [.i] (x1.1,()))))
def F_k29 (A:Alg) (p_k30:Tup A.toCar [.i]→A.B) (f_k30:Tup A.toCar [.i]→Tup A.toCar [.b]) (p_k31:Tup A.toCar [.i]→A.B) (f_k31:Tup A.toCar [.i]→Tup A.toCar [.i]) (x:Tup A.toCar [.i,.i,.i]):A.M (Tup A.toCar [.i]):=
(A.letT [.i] ((A.lit 0),()) fun x0=>
(A.chk (p_k30 (x.2.1,()))
(A.letT [.b] ((f_k30 (x.2.1,())).1,()) fun x1=>
(A.chk (A.orB (A.notB (A.notB (A.notB x1.1))) (p_k30 (x.2.2.1,())))
(A.letT [.b] ((f_k30 (x.2.2.1,())).1,()) fun x2=>
(A.cond (A.iteB (A.notB x1.1) (A.bl true) (A.notB x2.1))
(A.letT [.i] ((A.lit 0),()) fun x3=>
(A.ret [.i] (x3.1,())))
(A.letT [.b] ((A.cmp .eql x.1 (A.lit 1)),()) fun x3=>
(A.cond x3.1
(A.chk (p_k31 ((A.arith .add .i64 x.2.1 x.2.2.1),()))
(A.letT [.i] ((f_k31 ((A.arith .add .i64 x.2.1 x.2.2.1),())).1,()) fun x4=>
(A.letT [.i] (x4.1,()) fun x5=>
(A.ret [.i] (x5.1,())))))
(A.letT [.b] ((A.cmp .eql x.1 (A.lit 2)),()) fun x4=>
(A.cond x4.1
(A.chk (p_k31 ((A.arith .sub .i64 x.2.1 x.2.2.1),()))
(A.letT [.i] ((f_k31 ((A.arith .sub .i64 x.2.1 x.2.2.1),())).1,()) fun x5=>
(A.letT [.i] (x5.1,()) fun x6=>
(A.ret [.i] (x6.1,())))))
(A.letT [.b] ((A.cmp .eql x.1 (A.lit 3)),()) fun x5=>
(A.cond x5.1
(A.chk (p_k31 ((A.arith .mul .i64 x.2.1 x.2.2.1),()))
(A.letT [.i] ((f_k31 ((A.arith .mul .i64 x.2.1 x.2.2.1),())).1,()) fun x6=>
(A.letT [.i] (x6.1,()) fun x7=>
(A.ret [.i] (x7.1,())))))
(A.letT [.b] ((A.cmp .eql x.1 (A.lit 4)),()) fun x6=>
(A.cond x6.1
(A.letT [.i] ((A.arith .and .i64 x.2.1 x.2.2.1),()) fun x7=>
(A.ret [.i] (x7.1,())))
(A.letT [.b] ((A.cmp .eql x.1 (A.lit 5)),()) fun x7=>
(A.cond x7.1
(A.letT [.i] ((A.arith .xor .i64 x.2.1 x.2.2.1),()) fun x8=>
(A.ret [.i] (x8.1,())))
(A.letT [.i] ((A.lit 0),()) fun x8=>
(A.ret [.i] (x8.1,())))))))))))))))))))
def F_k33 (A:Alg) (x:Tup A.toCar [.l .i64]):A.M (Tup A.toCar [.l .i64]):=
(A.chk (A.cmp .leq (A.len .i64 x.1) (A.lit 1073741824))
(A.letT [.l .i64] (x.1,()) fun x0=>
(A.ret [.l .i64] (x0.1,()))))
def F_k39 (A:Alg) (p_k32:Tup A.toCar [.l .i64,.l .i64]→A.B) (f_k32:Tup A.toCar [.l .i64,.l .i64]→Tup A.toCar [.i]) (x:Tup A.toCar [.x .mono,.x .mono]):A.M (Tup A.toCar [.i]):=
(A.letT [.i] ((A.lit 0),()) fun x0=>
(A.chk (p_k32 ((A.fL .mono 1 .i64 x.1),(A.fL .mono 1 .i64 x.2.1),()))
(A.letT [.i] ((f_k32 ((A.fL .mono 1 .i64 x.1),(A.fL .mono 1 .i64 x.2.1),())).1,()) fun x1=>
(A.letT [.i] (x1.1,()) fun x2=>
(A.ret [.i] (x2.1,()))))))
def F_k68 (A:Alg) (p_k39:Tup A.toCar [.x .mono,.x .mono]→A.B) (f_k39:Tup A.toCar [.x .mono,.x .mono]→Tup A.toCar [.i]) (x:Tup A.toCar [.i,.i,.l .mono]):A.M (Tup A.toCar [.l .mono]):=
(A.letT [.i] ((A.arith .add .i64 x.1 (A.lit 1)),()) fun x0=>
(A.iter [.i,.i,.i,.l .mono] (fun x1=>
(A.cond (A.cmp .lss x1.2.2.1 x1.2.1)
(A.letT [.i] (x1.2.2.1,()) fun x2=>
(A.iter [.i,.i,.i,.i,.l .mono] (fun x3=>
(A.chk (A.orB (A.notB (A.cmp .gtr x3.2.2.2.1 x3.1)) (A.cmp .leq (A.lit 0) x3.2.2.2.1))
(A.chk (A.orB (A.notB (A.cmp .gtr x3.2.2.2.1 x3.1)) (A.cmp .lss x3.2.2.2.1 (A.len .mono x3.2.2.2.2.1)))
(A.chk (A.orB (A.notB (A.cmp .gtr x3.2.2.2.1 x3.1)) (A.cmp .leq (A.lit 0) x3.2.2.2.1))
(A.chk (A.orB (A.notB (A.cmp .gtr x3.2.2.2.1 x3.1)) (A.cmp .lss x3.2.2.2.1 (A.len .mono x3.2.2.2.2.1)))
(A.chk (A.orB (A.notB (A.cmp .gtr x3.2.2.2.1 x3.1)) (A.cmp .leq (A.lit 0) (A.arith .sub .i64 x3.2.2.2.1 (A.lit 1))))
(A.chk (A.orB (A.notB (A.cmp .gtr x3.2.2.2.1 x3.1)) (A.cmp .lss (A.arith .sub .i64 x3.2.2.2.1 (A.lit 1)) (A.len .mono x3.2.2.2.2.1)))
(A.chk (A.orB (A.notB (A.cmp .gtr x3.2.2.2.1 x3.1)) (A.cmp .leq (A.lit 0) (A.arith .sub .i64 x3.2.2.2.1 (A.lit 1))))
(A.chk (A.orB (A.notB (A.cmp .gtr x3.2.2.2.1 x3.1)) (A.cmp .lss (A.arith .sub .i64 x3.2.2.2.1 (A.lit 1)) (A.len .mono x3.2.2.2.2.1)))
(A.chk (A.orB (A.notB (A.cmp .gtr x3.2.2.2.1 x3.1)) (p_k39 ((A.get .mono x3.2.2.2.2.1 x3.2.2.2.1),(A.get .mono x3.2.2.2.2.1 (A.arith .sub .i64 x3.2.2.2.1 (A.lit 1))),())))
(A.letT [.i] ((f_k39 ((A.get .mono x3.2.2.2.2.1 x3.2.2.2.1),(A.get .mono x3.2.2.2.2.1 (A.arith .sub .i64 x3.2.2.2.1 (A.lit 1))),())).1,()) fun x4=>
(A.cond (A.iteB (A.cmp .gtr x3.2.2.2.1 x3.1) (A.cmp .lss x4.1 (A.lit 0)) (A.bl false))
(A.chk (A.cmp .leq (A.lit 0) (A.arith .sub .i64 x3.2.2.2.1 (A.lit 1)))
(A.chk (A.cmp .lss (A.arith .sub .i64 x3.2.2.2.1 (A.lit 1)) (A.len .mono x3.2.2.2.2.1))
(A.chk (A.cmp .leq (A.lit 0) (A.arith .sub .i64 x3.2.2.2.1 (A.lit 1)))
(A.chk (A.cmp .lss (A.arith .sub .i64 x3.2.2.2.1 (A.lit 1)) (A.len .mono x3.2.2.2.2.1))
(A.chk (A.cmp .leq (A.lit 0) x3.2.2.2.1)
(A.chk (A.cmp .lss x3.2.2.2.1 (A.len .mono x3.2.2.2.2.1))
(A.chk (A.cmp .leq (A.lit 0) x3.2.2.2.1)
(A.chk (A.cmp .lss x3.2.2.2.1 (A.len .mono x3.2.2.2.2.1))
(A.chk (A.cmp .leq (A.lit 0) x3.2.2.2.1)
(A.chk (A.cmp .lss x3.2.2.2.1 (A.len .mono x3.2.2.2.2.1))
(A.chk (A.cmp .leq (A.lit 0) x3.2.2.2.1)
(A.chk (A.cmp .lss x3.2.2.2.1 (A.len .mono x3.2.2.2.2.1))
(A.letT [.x .mono] ((A.get .mono x3.2.2.2.2.1 (A.arith .sub .i64 x3.2.2.2.1 (A.lit 1))),()) fun x5=>
(A.chk (A.cmp .leq (A.lit 0) (A.arith .sub .i64 x3.2.2.2.1 (A.lit 1)))
(A.chk (A.cmp .lss (A.arith .sub .i64 x3.2.2.2.1 (A.lit 1)) (A.len .mono (A.set .mono x3.2.2.2.2.1 x3.2.2.2.1 x5.1)))
(A.chk (A.cmp .leq (A.lit 0) (A.arith .sub .i64 x3.2.2.2.1 (A.lit 1)))
(A.chk (A.cmp .lss (A.arith .sub .i64 x3.2.2.2.1 (A.lit 1)) (A.len .mono (A.set .mono x3.2.2.2.2.1 x3.2.2.2.1 x5.1)))
(A.letT [.x .mono] ((A.get .mono x3.2.2.2.2.1 x3.2.2.2.1),()) fun x6=>
(A.letT [.i] ((A.arith .sub .i64 x3.2.2.2.1 (A.lit 1)),()) fun x7=>
(A.inl [.i,.i,.i,.i,.l .mono] (x3.1,x3.2.1,x3.2.2.1,x7.1,(A.set .mono (A.set .mono x3.2.2.2.2.1 x3.2.2.2.1 x5.1) (A.arith .sub .i64 x3.2.2.2.1 (A.lit 1)) x6.1),())))))))))))))))))))))
(A.inr [.i,.i,.i,.i,.l .mono] (A.letT [.i] ((A.arith .add .i64 x3.2.2.1 (A.lit 1)),()) fun x5=>
(A.inl [.i,.i,.i,.l .mono] (x3.1,x3.2.1,x5.1,x3.2.2.2.2.1,())))))))))))))))) (x1.1,x1.2.1,x1.2.2.1,x2.1,x1.2.2.2.1,())))
(A.inr [.i,.i,.i,.l .mono] (A.ret [.l .mono] (x1.2.2.2.1,()))))) (x.1,x.2.1,x0.1,x.2.2.1,())))
def F_k77 (A:Alg) (x:Tup A.toCar [.i,.i,.i,.l .mono]):A.M (Tup A.toCar [.l .mono]):=
(A.letT [.i] ((A.lit 0),()) fun x0=>
(A.iter [.i,.i,.i,.i,.l .mono] (fun x1=>
(A.cond (A.cmp .lss x1.2.2.2.1 x1.2.2.1)
(A.chk (A.cmp .leq (A.lit 0) (A.arith .add .i64 x1.2.1 x1.2.2.2.1))
(A.chk (A.cmp .lss (A.arith .add .i64 x1.2.1 x1.2.2.2.1) (A.len .mono x1.2.2.2.2.1))
(A.chk (A.cmp .leq (A.lit 0) (A.arith .add .i64 x1.2.1 x1.2.2.2.1))
(A.chk (A.cmp .lss (A.arith .add .i64 x1.2.1 x1.2.2.2.1) (A.len .mono x1.2.2.2.2.1))
(A.chk (A.cmp .leq (A.lit 0) (A.arith .add .i64 x1.1 x1.2.2.2.1))
(A.chk (A.cmp .lss (A.arith .add .i64 x1.1 x1.2.2.2.1) (A.len .mono x1.2.2.2.2.1))
(A.chk (A.cmp .leq (A.lit 0) (A.arith .add .i64 x1.1 x1.2.2.2.1))
(A.chk (A.cmp .lss (A.arith .add .i64 x1.1 x1.2.2.2.1) (A.len .mono x1.2.2.2.2.1))
(A.chk (A.cmp .leq (A.lit 0) (A.arith .add .i64 x1.1 x1.2.2.2.1))
(A.chk (A.cmp .lss (A.arith .add .i64 x1.1 x1.2.2.2.1) (A.len .mono x1.2.2.2.2.1))
(A.chk (A.cmp .leq (A.lit 0) (A.arith .add .i64 x1.1 x1.2.2.2.1))
(A.chk (A.cmp .lss (A.arith .add .i64 x1.1 x1.2.2.2.1) (A.len .mono x1.2.2.2.2.1))
(A.letT [.x .mono] ((A.get .mono x1.2.2.2.2.1 (A.arith .add .i64 x1.2.1 x1.2.2.2.1)),()) fun x2=>
(A.chk (A.cmp .leq (A.lit 0) (A.arith .add .i64 x1.2.1 x1.2.2.2.1))
(A.chk (A.cmp .lss (A.arith .add .i64 x1.2.1 x1.2.2.2.1) (A.len .mono (A.set .mono x1.2.2.2.2.1 (A.arith .add .i64 x1.1 x1.2.2.2.1) x2.1)))
(A.chk (A.cmp .leq (A.lit 0) (A.arith .add .i64 x1.2.1 x1.2.2.2.1))
(A.chk (A.cmp .lss (A.arith .add .i64 x1.2.1 x1.2.2.2.1) (A.len .mono (A.set .mono x1.2.2.2.2.1 (A.arith .add .i64 x1.1 x1.2.2.2.1) x2.1)))
(A.letT [.x .mono] ((A.get .mono x1.2.2.2.2.1 (A.arith .add .i64 x1.1 x1.2.2.2.1)),()) fun x3=>
(A.letT [.i] ((A.arith .add .i64 x1.2.2.2.1 (A.lit 1)),()) fun x4=>
(A.inl [.i,.i,.i,.i,.l .mono] (x1.1,x1.2.1,x1.2.2.1,x4.1,(A.set .mono (A.set .mono x1.2.2.2.2.1 (A.arith .add .i64 x1.1 x1.2.2.2.1) x2.1) (A.arith .add .i64 x1.2.1 x1.2.2.2.1) x3.1),())))))))))))))))))))))
(A.inr [.i,.i,.i,.i,.l .mono] (A.ret [.l .mono] (x1.2.2.2.2.1,()))))) (x.1,x.2.1,x.2.2.1,x0.1,x.2.2.2.1,())))
def F_k75 (A:Alg) (p_k77:Tup A.toCar [.i,.i,.i,.l .mono]→A.B) (f_k77:Tup A.toCar [.i,.i,.i,.l .mono]→Tup A.toCar [.l .mono]) (x:Tup A.toCar [.i,.i,.i,.l .mono]):A.M (Tup A.toCar [.l .mono]):=
(A.letT [.i] ((A.arith .sub .i64 x.2.1 x.1),()) fun x0=>
(A.letT [.i] ((A.arith .sub .i64 x.2.2.1 x.2.1),()) fun x1=>
(A.iter [.i,.i,.i,.l .mono] (fun x2=>
(A.cond (A.cmp .neq x2.2.1 x2.2.2.1)
(A.bind [.i,.i,.i,.l .mono]
(A.cond (A.cmp .gtr x2.2.1 x2.2.2.1)
(A.chk (p_k77 ((A.arith .sub .i64 x2.1 x2.2.1),x2.1,x2.2.2.1,x2.2.2.2.1,()))
(A.letT [.l .mono] ((f_k77 ((A.arith .sub .i64 x2.1 x2.2.1),x2.1,x2.2.2.1,x2.2.2.2.1,())).1,()) fun x3=>
(A.letT [.i] ((A.arith .sub .i64 x2.2.1 x2.2.2.1),()) fun x4=>
(A.ret [.i,.i,.i,.l .mono] (x2.1,x4.1,x2.2.2.1,x3.1,())))))
(A.chk (p_k77 ((A.arith .sub .i64 x2.1 x2.2.1),(A.arith .sub .i64 (A.arith .add .i64 x2.1 x2.2.2.1) x2.2.1),x2.2.1,x2.2.2.2.1,()))
(A.letT [.l .mono] ((f_k77 ((A.arith .sub .i64 x2.1 x2.2.1),(A.arith .sub .i64 (A.arith .add .i64 x2.1 x2.2.2.1) x2.2.1),x2.2.1,x2.2.2.2.1,())).1,()) fun x3=>
(A.letT [.i] ((A.arith .sub .i64 x2.2.2.1 x2.2.1),()) fun x4=>
(A.ret [.i,.i,.i,.l .mono] (x2.1,x2.2.1,x4.1,x3.1,()))))))
fun x3=>
(A.inl [.i,.i,.i,.l .mono] (x3.1,x3.2.1,x3.2.2.1,x3.2.2.2.1,())))
(A.inr [.i,.i,.i,.l .mono] (A.chk (p_k77 ((A.arith .sub .i64 x2.1 x2.2.1),x2.1,x2.2.1,x2.2.2.2.1,()))
(A.letT [.l .mono] ((f_k77 ((A.arith .sub .i64 x2.1 x2.2.1),x2.1,x2.2.1,x2.2.2.2.1,())).1,()) fun x3=>
(A.ret [.l .mono] (x3.1,()))))))) (x.2.1,x0.1,x1.1,x.2.2.2.1,()))))
def F_k78 (A:Alg) (p_k39:Tup A.toCar [.x .mono,.x .mono]→A.B) (f_k39:Tup A.toCar [.x .mono,.x .mono]→Tup A.toCar [.i]) (p_k75:Tup A.toCar [.i,.i,.i,.l .mono]→A.B) (f_k75:Tup A.toCar [.i,.i,.i,.l .mono]→Tup A.toCar [.l .mono]) (p_k78:Tup A.toCar [.i,.i,.i,.l .mono]→A.B) (f_k78:Tup A.toCar [.i,.i,.i,.l .mono]→Tup A.toCar [.l .mono]) (x:Tup A.toCar [.i,.i,.i,.l .mono]):A.M (Tup A.toCar [.l .mono]):=
(A.cond (A.cmp .eql (A.arith .sub .i64 x.2.1 x.1) (A.lit 1))
(A.letT [.i] (x.2.1,()) fun x0=>
(A.letT [.i] (x.2.2.1,()) fun x1=>
(A.iter [.i,.i,.i,.l .mono] (fun x2=>
(A.cond (A.cmp .lss x2.2.1 x2.2.2.1)
(A.chk (A.cmp .leq (A.lit 0) (A.lit 1))
(A.letT [.i] ((A.conv .i64 (A.arith .shr .u64 (A.conv .u64 (A.arith .add .i64 x2.2.1 x2.2.2.1)) (A.lit 1))),()) fun x3=>
(A.chk (A.cmp .leq (A.lit 0) x3.1)
(A.chk (A.cmp .lss x3.1 (A.len .mono x2.2.2.2.1))
(A.chk (A.cmp .leq (A.lit 0) x3.1)
(A.chk (A.cmp .lss x3.1 (A.len .mono x2.2.2.2.1))
(A.chk (A.cmp .leq (A.lit 0) x2.1)
(A.chk (A.cmp .lss x2.1 (A.len .mono x2.2.2.2.1))
(A.chk (A.cmp .leq (A.lit 0) x2.1)
(A.chk (A.cmp .lss x2.1 (A.len .mono x2.2.2.2.1))
(A.chk (p_k39 ((A.get .mono x2.2.2.2.1 x3.1),(A.get .mono x2.2.2.2.1 x2.1),()))
(A.letT [.i] ((f_k39 ((A.get .mono x2.2.2.2.1 x3.1),(A.get .mono x2.2.2.2.1 x2.1),())).1,()) fun x4=>
(A.bind [.i,.i,.i,.l .mono]
(A.cond (A.cmp .lss x4.1 (A.lit 0))
(A.letT [.i] ((A.arith .add .i64 x3.1 (A.lit 1)),()) fun x5=>
(A.ret [.i,.i,.i,.l .mono] (x2.1,x5.1,x2.2.2.1,x2.2.2.2.1,())))
(A.letT [.i] (x3.1,()) fun x5=>
(A.ret [.i,.i,.i,.l .mono] (x2.1,x2.2.1,x5.1,x2.2.2.2.1,()))))
fun x5=>
(A.inl [.i,.i,.i,.l .mono] (x5.1,x5.2.1,x5.2.2.1,x5.2.2.2.1,())))))))))))))))
(A.inr [.i,.i,.i,.l .mono] (A.letT [.i] (x2.1,()) fun x3=>
(A.iter [.i,.i,.l .mono] (fun x4=>
(A.cond (A.cmp .lss x4.2.1 (A.arith .sub .i64 x4.1 (A.lit 1)))
(A.chk (A.cmp .leq (A.lit 0) (A.arith .add .i64 x4.2.1 (A.lit 1)))
(A.chk (A.cmp .lss (A.arith .add .i64 x4.2.1 (A.lit 1)) (A.len .mono x4.2.2.1))
(A.chk (A.cmp .leq (A.lit 0) (A.arith .add .i64 x4.2.1 (A.lit 1)))
(A.chk (A.cmp .lss (A.arith .add .i64 x4.2.1 (A.lit 1)) (A.len .mono x4.2.2.1))
(A.chk (A.cmp .leq (A.lit 0) x4.2.1)
(A.chk (A.cmp .lss x4.2.1 (A.len .mono x4.2.2.1))
(A.chk (A.cmp .leq (A.lit 0) x4.2.1)
(A.chk (A.cmp .lss x4.2.1 (A.len .mono x4.2.2.1))
(A.chk (A.cmp .leq (A.lit 0) x4.2.1)
(A.chk (A.cmp .lss x4.2.1 (A.len .mono x4.2.2.1))
(A.chk (A.cmp .leq (A.lit 0) x4.2.1)
(A.chk (A.cmp .lss x4.2.1 (A.len .mono x4.2.2.1))
(A.letT [.x .mono] ((A.get .mono x4.2.2.1 (A.arith .add .i64 x4.2.1 (A.lit 1))),()) fun x5=>
(A.chk (A.cmp .leq (A.lit 0) (A.arith .add .i64 x4.2.1 (A.lit 1)))
(A.chk (A.cmp .lss (A.arith .add .i64 x4.2.1 (A.lit 1)) (A.len .mono (A.set .mono x4.2.2.1 x4.2.1 x5.1)))
(A.chk (A.cmp .leq (A.lit 0) (A.arith .add .i64 x4.2.1 (A.lit 1)))
(A.chk (A.cmp .lss (A.arith .add .i64 x4.2.1 (A.lit 1)) (A.len .mono (A.set .mono x4.2.2.1 x4.2.1 x5.1)))
(A.letT [.x .mono] ((A.get .mono x4.2.2.1 x4.2.1),()) fun x6=>
(A.letT [.i] ((A.arith .add .i64 x4.2.1 (A.lit 1)),()) fun x7=>
(A.inl [.i,.i,.l .mono] (x4.1,x7.1,(A.set .mono (A.set .mono x4.2.2.1 x4.2.1 x5.1) (A.arith .add .i64 x4.2.1 (A.lit 1)) x6.1),())))))))))))))))))))))
(A.inr [.i,.i,.l .mono] (A.ret [.l .mono] (x4.2.2.1,()))))) (x2.2.1,x3.1,x2.2.2.2.1,())))))) (x.1,x0.1,x1.1,x.2.2.2.1,()))))
(A.cond (A.cmp .eql (A.arith .sub .i64 x.2.2.1 x.2.1) (A.lit 1))
(A.letT [.i] (x.1,()) fun x0=>
(A.letT [.i] (x.2.1,()) fun x1=>
(A.iter [.i,.i,.i,.l .mono] (fun x2=>
(A.cond (A.cmp .lss x2.2.1 x2.2.2.1)
(A.chk (A.cmp .leq (A.lit 0) (A.lit 1))
(A.letT [.i] ((A.conv .i64 (A.arith .shr .u64 (A.conv .u64 (A.arith .add .i64 x2.2.1 x2.2.2.1)) (A.lit 1))),()) fun x3=>
(A.chk (A.cmp .leq (A.lit 0) x2.1)
(A.chk (A.cmp .lss x2.1 (A.len .mono x2.2.2.2.1))
(A.chk (A.cmp .leq (A.lit 0) x2.1)
(A.chk (A.cmp .lss x2.1 (A.len .mono x2.2.2.2.1))
(A.chk (A.cmp .leq (A.lit 0) x3.1)
(A.chk (A.cmp .lss x3.1 (A.len .mono x2.2.2.2.1))
(A.chk (A.cmp .leq (A.lit 0) x3.1)
(A.chk (A.cmp .lss x3.1 (A.len .mono x2.2.2.2.1))
(A.chk (p_k39 ((A.get .mono x2.2.2.2.1 x2.1),(A.get .mono x2.2.2.2.1 x3.1),()))
(A.letT [.i] ((f_k39 ((A.get .mono x2.2.2.2.1 x2.1),(A.get .mono x2.2.2.2.1 x3.1),())).1,()) fun x4=>
(A.bind [.i,.i,.i,.l .mono]
(A.cond (A.notB (A.cmp .lss x4.1 (A.lit 0)))
(A.letT [.i] ((A.arith .add .i64 x3.1 (A.lit 1)),()) fun x5=>
(A.ret [.i,.i,.i,.l .mono] (x2.1,x5.1,x2.2.2.1,x2.2.2.2.1,())))
(A.letT [.i] (x3.1,()) fun x5=>
(A.ret [.i,.i,.i,.l .mono] (x2.1,x2.2.1,x5.1,x2.2.2.2.1,()))))
fun x5=>
(A.inl [.i,.i,.i,.l .mono] (x5.1,x5.2.1,x5.2.2.1,x5.2.2.2.1,())))))))))))))))
(A.inr [.i,.i,.i,.l .mono] (A.letT [.i] (x2.1,()) fun x3=>
(A.iter [.i,.i,.l .mono] (fun x4=>
(A.cond (A.cmp .gtr x4.2.1 x4.1)
(A.chk (A.cmp .leq (A.lit 0) (A.arith .sub .i64 x4.2.1 (A.lit 1)))
(A.chk (A.cmp .lss (A.arith .sub .i64 x4.2.1 (A.lit 1)) (A.len .mono x4.2.2.1))
(A.chk (A.cmp .leq (A.lit 0) (A.arith .sub .i64 x4.2.1 (A.lit 1)))
(A.chk (A.cmp .lss (A.arith .sub .i64 x4.2.1 (A.lit 1)) (A.len .mono x4.2.2.1))
(A.chk (A.cmp .leq (A.lit 0) x4.2.1)
(A.chk (A.cmp .lss x4.2.1 (A.len .mono x4.2.2.1))
(A.chk (A.cmp .leq (A.lit 0) x4.2.1)
(A.chk (A.cmp .lss x4.2.1 (A.len .mono x4.2.2.1))
(A.chk (A.cmp .leq (A.lit 0) x4.2.1)
(A.chk (A.cmp .lss x4.2.1 (A.len .mono x4.2.2.1))
(A.chk (A.cmp .leq (A.lit 0) x4.2.1)
(A.chk (A.cmp .lss x4.2.1 (A.len .mono x4.2.2.1))
(A.letT [.x .mono] ((A.get .mono x4.2.2.1 (A.arith .sub .i64 x4.2.1 (A.lit 1))),()) fun x5=>
(A.chk (A.cmp .leq (A.lit 0) (A.arith .sub .i64 x4.2.1 (A.lit 1)))
(A.chk (A.cmp .lss (A.arith .sub .i64 x4.2.1 (A.lit 1)) (A.len .mono (A.set .mono x4.2.2.1 x4.2.1 x5.1)))
(A.chk (A.cmp .leq (A.lit 0) (A.arith .sub .i64 x4.2.1 (A.lit 1)))
(A.chk (A.cmp .lss (A.arith .sub .i64 x4.2.1 (A.lit 1)) (A.len .mono (A.set .mono x4.2.2.1 x4.2.1 x5.1)))
(A.letT [.x .mono] ((A.get .mono x4.2.2.1 x4.2.1),()) fun x6=>
(A.letT [.i] ((A.arith .sub .i64 x4.2.1 (A.lit 1)),()) fun x7=>
(A.inl [.i,.i,.l .mono] (x4.1,x7.1,(A.set .mono (A.set .mono x4.2.2.1 x4.2.1 x5.1) (A.arith .sub .i64 x4.2.1 (A.lit 1)) x6.1),())))))))))))))))))))))
(A.inr [.i,.i,.l .mono] (A.ret [.l .mono] (x4.2.2.1,()))))) (x2.2.1,x3.1,x2.2.2.2.1,())))))) (x.2.1,x0.1,x1.1,x.2.2.2.1,()))))
(A.chk (A.cmp .leq (A.lit 0) (A.lit 1))
(A.letT [.i] ((A.conv .i64 (A.arith .shr .u64 (A.conv .u64 (A.arith .add .i64 x.1 x.2.2.1)) (A.lit 1))),()) fun x0=>
(A.letT [.i] ((A.arith .add .i64 x0.1 x.2.1),()) fun x1=>
(A.letT [.i] ((A.lit 0),()) fun x2=>
(A.letT [.i] ((A.lit 0),()) fun x3=>
(A.bind [.i,.i,.i,.i,.i,.i,.i,.l .mono]
(A.cond (A.cmp .gtr x.2.1 x0.1)
(A.letT [.i] ((A.arith .sub .i64 x1.1 x.2.2.1),()) fun x4=>
(A.letT [.i] (x0.1,()) fun x5=>
(A.ret [.i,.i,.i,.i,.i,.i,.i,.l .mono] (x.1,x.2.1,x.2.2.1,x0.1,x1.1,x4.1,x5.1,x.2.2.2.1,()))))
(A.letT [.i] (x.1,()) fun x4=>
(A.letT [.i] (x.2.1,()) fun x5=>
(A.ret [.i,.i,.i,.i,.i,.i,.i,.l .mono] (x.1,x.2.1,x.2.2.1,x0.1,x1.1,x4.1,x5.1,x.2.2.2.1,())))))
fun x4=>
(A.letT [.i] ((A.arith .sub .i64 x4.2.2.2.2.1 (A.lit 1)),()) fun x5=>
(A.iter [.i,.i,.i,.i,.i,.i,.i,.i,.l .mono] (fun x6=>
(A.cond (A.cmp .lss x6.2.2.2.2.2.1 x6.2.2.2.2.2.2.1)
(A.chk (A.cmp .leq (A.lit 0) (A.lit 1))
(A.letT [.i] ((A.conv .i64 (A.arith .shr .u64 (A.conv .u64 (A.arith .add .i64 x6.2.2.2.2.2.1 x6.2.2.2.2.2.2.1)) (A.lit 1))),()) fun x7=>
(A.chk (A.cmp .leq (A.lit 0) (A.arith .sub .i64 x6.2.2.2.2.2.2.2.1 x7.1))
(A.chk (A.cmp .lss (A.arith .sub .i64 x6.2.2.2.2.2.2.2.1 x7.1) (A.len .mono x6.2.2.2.2.2.2.2.2.1))
(A.chk (A.cmp .leq (A.lit 0) (A.arith .sub .i64 x6.2.2.2.2.2.2.2.1 x7.1))
(A.chk (A.cmp .lss (A.arith .sub .i64 x6.2.2.2.2.2.2.2.1 x7.1) (A.len .mono x6.2.2.2.2.2.2.2.2.1))
(A.chk (A.cmp .leq (A.lit 0) x7.1)
(A.chk (A.cmp .lss x7.1 (A.len .mono x6.2.2.2.2.2.2.2.2.1))
(A.chk (A.cmp .leq (A.lit 0) x7.1)
(A.chk (A.cmp .lss x7.1 (A.len .mono x6.2.2.2.2.2.2.2.2.1))
(A.chk (p_k39 ((A.get .mono x6.2.2.2.2.2.2.2.2.1 (A.arith .sub .i64 x6.2.2.2.2.2.2.2.1 x7.1)),(A.get .mono x6.2.2.2.2.2.2.2.2.1 x7.1),()))
(A.letT [.i] ((f_k39 ((A.get .mono x6.2.2.2.2.2.2.2.2.1 (A.arith .sub .i64 x6.2.2.2.2.2.2.2.1 x7.1)),(A.get .mono x6.2.2.2.2.2.2.2.2.1 x7.1),())).1,()) fun x8=>
(A.bind [.i,.i,.i,.i,.i,.i,.i,.i,.l .mono]
(A.cond (A.notB (A.cmp .lss x8.1 (A.lit 0)))
(A.letT [.i] ((A.arith .add .i64 x7.1 (A.lit 1)),()) fun x9=>
(A.ret [.i,.i,.i,.i,.i,.i,.i,.i,.l .mono] (x6.1,x6.2.1,x6.2.2.1,x6.2.2.2.1,x6.2.2.2.2.1,x9.1,x6.2.2.2.2.2.2.1,x6.2.2.2.2.2.2.2.1,x6.2.2.2.2.2.2.2.2.1,())))
(A.letT [.i] (x7.1,()) fun x9=>
(A.ret [.i,.i,.i,.i,.i,.i,.i,.i,.l .mono] (x6.1,x6.2.1,x6.2.2.1,x6.2.2.2.1,x6.2.2.2.2.1,x6.2.2.2.2.2.1,x9.1,x6.2.2.2.2.2.2.2.1,x6.2.2.2.2.2.2.2.2.1,()))))
fun x9=>
(A.inl [.i,.i,.i,.i,.i,.i,.i,.i,.l .mono] (x9.1,x9.2.1,x9.2.2.1,x9.2.2.2.1,x9.2.2.2.2.1,x9.2.2.2.2.2.1,x9.2.2.2.2.2.2.1,x9.2.2.2.2.2.2.2.1,x9.2.2.2.2.2.2.2.2.1,())))))))))))))))
(A.inr [.i,.i,.i,.i,.i,.i,.i,.i,.l .mono] (A.letT [.i] ((A.arith .sub .i64 x6.2.2.2.2.1 x6.2.2.2.2.2.1),()) fun x7=>
(A.bind [.i,.i,.i,.i,.i,.l .mono]
(A.cond (A.iteB (A.cmp .lss x6.2.2.2.2.2.1 x6.2.1) (A.cmp .lss x6.2.1 x7.1) (A.bl false))
(A.chk (p_k75 (x6.2.2.2.2.2.1,x6.2.1,x7.1,x6.2.2.2.2.2.2.2.2.1,()))
(A.letT [.l .mono] ((f_k75 (x6.2.2.2.2.2.1,x6.2.1,x7.1,x6.2.2.2.2.2.2.2.2.1,())).1,()) fun x8=>
(A.ret [.i,.i,.i,.i,.i,.l .mono] (x6.1,x6.2.2.1,x6.2.2.2.1,x6.2.2.2.2.2.1,x7.1,x8.1,()))))
(A.ret [.i,.i,.i,.i,.i,.l .mono] (x6.1,x6.2.2.1,x6.2.2.2.1,x6.2.2.2.2.2.1,x7.1,x6.2.2.2.2.2.2.2.2.1,())))
fun x8=>
(A.bind [.i,.i,.i,.l .mono]
(A.cond (A.iteB (A.cmp .lss x8.1 x8.2.2.2.1) (A.cmp .lss x8.2.2.2.1 x8.2.2.1) (A.bl false))
(A.chk (p_k78 (x8.1,x8.2.2.2.1,x8.2.2.1,x8.2.2.2.2.2.1,()))
(A.letT [.l .mono] ((f_k78 (x8.1,x8.2.2.2.1,x8.2.2.1,x8.2.2.2.2.2.1,())).1,()) fun x9=>
(A.ret [.i,.i,.i,.l .mono] (x8.2.1,x8.2.2.1,x8.2.2.2.2.1,x9.1,()))))
(A.ret [.i,.i,.i,.l .mono] (x8.2.1,x8.2.2.1,x8.2.2.2.2.1,x8.2.2.2.2.2.1,())))
fun x9=>
(A.bind [.l .mono]
(A.cond (A.iteB (A.cmp .lss x9.2.1 x9.2.2.1) (A.cmp .lss x9.2.2.1 x9.1) (A.bl false))
(A.chk (p_k78 (x9.2.1,x9.2.2.1,x9.1,x9.2.2.2.1,()))
(A.letT [.l .mono] ((f_k78 (x9.2.1,x9.2.2.1,x9.1,x9.2.2.2.1,())).1,()) fun x10=>
(A.ret [.l .mono] (x10.1,()))))
(A.ret [.l .mono] (x9.2.2.2.1,())))
fun x10=>
(A.ret [.l .mono] (x10.1,()))))))))) (x4.1,x4.2.1,x4.2.2.1,x4.2.2.2.1,x4.2.2.2.2.1,x4.2.2.2.2.2.1,x4.2.2.2.2.2.2.1,x5.1,x4.2.2.2.2.2.2.2.1,())))))))))))
def F_k76 (A:Alg) (p_k68:Tup A.toCar [.i,.i,.l .mono]→A.B) (f_k68:Tup A.toCar [.i,.i,.l .mono]→Tup A.toCar [.l .mono]) (p_k78:Tup A.toCar [.i,.i,.i,.l .mono]→A.B) (f_k78:Tup A.toCar [.i,.i,.i,.l .mono]→Tup A.toCar [.l .mono]) (x:Tup A.toCar [.i,.l .mono]):A.M (Tup A.toCar [.l .mono]):=
(A.letT [.i] ((A.lit 20),()) fun x0=>
(A.letT [.i] ((A.lit 0),()) fun x1=>
(A.letT [.i] (x0.1,()) fun x2=>
(A.iter [.i,.i,.i,.i,.l .mono] (fun x3=>
(A.cond (A.cmp .leq x3.2.2.2.1 x3.1)
(A.chk (p_k68 (x3.2.2.1,x3.2.2.2.1,x3.2.2.2.2.1,()))
(A.letT [.l .mono] ((f_k68 (x3.2.2.1,x3.2.2.2.1,x3.2.2.2.2.1,())).1,()) fun x4=>
(A.letT [.i] (x3.2.2.2.1,()) fun x5=>
(A.letT [.i] ((A.arith .add .i64 x3.2.2.2.1 x3.2.1),()) fun x6=>
(A.inl [.i,.i,.i,.i,.l .mono] (x3.1,x3.2.1,x5.1,x6.1,x4.1,()))))))
(A.inr [.i,.i,.i,.i,.l .mono] (A.chk (p_k68 (x3.2.2.1,x3.1,x3.2.2.2.2.1,()))
(A.letT [.l .mono] ((f_k68 (x3.2.2.1,x3.1,x3.2.2.2.2.1,())).1,()) fun x4=>
(A.iter [.i,.i,.l .mono] (fun x5=>
(A.cond (A.cmp .lss x5.2.1 x5.1)
(A.letT [.i] ((A.lit 0),()) fun x6=>
(A.letT [.i] ((A.arith .mul .i64 (A.lit 2) x5.2.1),()) fun x7=>
(A.iter [.i,.i,.i,.i,.l .mono] (fun x8=>
(A.cond (A.cmp .leq x8.2.2.2.1 x8.1)
(A.chk (p_k78 (x8.2.2.1,(A.arith .add .i64 x8.2.2.1 x8.2.1),x8.2.2.2.1,x8.2.2.2.2.1,()))
(A.letT [.l .mono] ((f_k78 (x8.2.2.1,(A.arith .add .i64 x8.2.2.1 x8.2.1),x8.2.2.2.1,x8.2.2.2.2.1,())).1,()) fun x9=>
(A.letT [.i] (x8.2.2.2.1,()) fun x10=>
(A.letT [.i] ((A.arith .add .i64 x8.2.2.2.1 (A.arith .mul .i64 (A.lit 2) x8.2.1)),()) fun x11=>
(A.inl [.i,.i,.i,.i,.l .mono] (x8.1,x8.2.1,x10.1,x11.1,x9.1,()))))))
(A.inr [.i,.i,.i,.i,.l .mono] (A.letT [.i] ((A.arith .add .i64 x8.2.2.1 x8.2.1),()) fun x9=>
(A.bind [.i,.i,.l .mono]
(A.cond (A.cmp .lss x9.1 x8.1)
(A.chk (p_k78 (x8.2.2.1,x9.1,x8.1,x8.2.2.2.2.1,()))
(A.letT [.l .mono] ((f_k78 (x8.2.2.1,x9.1,x8.1,x8.2.2.2.2.1,())).1,()) fun x10=>
(A.ret [.i,.i,.l .mono] (x8.1,x8.2.1,x10.1,()))))
(A.ret [.i,.i,.l .mono] (x8.1,x8.2.1,x8.2.2.2.2.1,())))
fun x10=>
(A.letT [.i] ((A.arith .mul .i64 x10.2.1 (A.lit 2)),()) fun x11=>
(A.inl [.i,.i,.l .mono] (x10.1,x11.1,x10.2.2.1,())))))))) (x5.1,x5.2.1,x6.1,x7.1,x5.2.2.1,()))))
(A.inr [.i,.i,.l .mono] (A.ret [.l .mono] (x5.2.2.1,()))))) (x3.1,x3.2.1,x4.1,()))))))) (x.1,x0.1,x1.1,x2.1,x.2.1,())))))
def F_k63 (A:Alg) (p_k76:Tup A.toCar [.i,.l .mono]→A.B) (f_k76:Tup A.toCar [.i,.l .mono]→Tup A.toCar [.l .mono]) (x:Tup A.toCar [.l .mono]):A.M (Tup A.toCar [.l .mono]):=
(A.chk (p_k76 ((A.len .mono x.1),x.1,()))
(A.letT [.l .mono] ((f_k76 ((A.len .mono x.1),x.1,())).1,()) fun x0=>
(A.ret [.l .mono] (x0.1,()))))
def F_k38 (A:Alg) (p_k32:Tup A.toCar [.l .i64,.l .i64]→A.B) (f_k32:Tup A.toCar [.l .i64,.l .i64]→Tup A.toCar [.i]) (p_k10:Tup A.toCar [.x .poly]→A.B) (f_k10:Tup A.toCar [.x .poly]→Tup A.toCar [.b]) (p_k31:Tup A.toCar [.i]→A.B) (f_k31:Tup A.toCar [.i]→Tup A.toCar [.i]) (p_k33:Tup A.toCar [.l .i64]→A.B) (f_k33:Tup A.toCar [.l .i64]→Tup A.toCar [.l .i64]) (p_k63:Tup A.toCar [.l .mono]→A.B) (f_k63:Tup A.toCar [.l .mono]→Tup A.toCar [.l .mono]) (x:Tup A.toCar [.l .mono]):A.M (Tup A.toCar [.b,.l .mono,.l .mono]):=
(A.letT [.b] ((A.bl false),()) fun x0=>
(A.chk (p_k63 (x.1,()))
(A.letT [.l .mono] ((f_k63 (x.1,())).1,()) fun x1=>
(A.letT [.i] ((A.lit 0),()) fun x2=>
(A.iter [.i,.l .mono,.l .mono] (fun x3=>
(A.cond (A.cmp .lss x3.1 (A.len .mono x3.2.1))
(A.chk (A.cmp .leq (A.lit 0) x3.1)
(A.chk (A.cmp .lss x3.1 (A.len .mono x3.2.1))
(A.chk (A.cmp .leq (A.lit 0) x3.1)
(A.chk (A.cmp .lss x3.1 (A.len .mono x3.2.1))
(A.letT [.i] ((A.lit 0),()) fun x4=>
(A.letT [.x .mono] ((A.get .mono x3.2.1 x3.1),()) fun x5=>
(A.iter [.i,.i,.l .mono,.x .mono,.l .mono] (fun x6=>
(A.chk (A.orB (A.notB (A.cmp .lss x6.1 (A.len .mono x6.2.2.1))) (A.cmp .leq (A.lit 0) x6.1))
(A.chk (A.orB (A.notB (A.cmp .lss x6.1 (A.len .mono x6.2.2.1))) (A.cmp .lss x6.1 (A.len .mono x6.2.2.1)))
(A.chk (A.orB (A.notB (A.cmp .lss x6.1 (A.len .mono x6.2.2.1))) (A.cmp .leq (A.lit 0) x6.1))
(A.chk (A.orB (A.notB (A.cmp .lss x6.1 (A.len .mono x6.2.2.1))) (A.cmp .lss x6.1 (A.len .mono x6.2.2.1)))
(A.chk (A.orB (A.notB (A.cmp .lss x6.1 (A.len .mono x6.2.2.1))) (p_k32 ((A.fL .mono 1 .i64 x6.2.2.2.1),(A.fL .mono 1 .i64 (A.get .mono x6.2.2.1 x6.1)),())))
(A.letT [.i] ((f_k32 ((A.fL .mono 1 .i64 x6.2.2.2.1),(A.fL .mono 1 .i64 (A.get .mono x6.2.2.1 x6.1)),())).1,()) fun x7=>
(A.cond (A.iteB (A.cmp .lss x6.1 (A.len .mono x6.2.2.1)) (A.cmp .eql x7.1 (A.lit 0)) (A.bl false))
(A.chk (A.cmp .leq (A.lit 0) x6.1)
(A.chk (A.cmp .lss x6.1 (A.len .mono x6.2.2.1))
(A.chk (A.cmp .leq (A.lit 0) x6.1)
(A.chk (A.cmp .lss x6.1 (A.len .mono x6.2.2.1))
(A.chk (p_k31 ((A.arith .add .i64 x6.2.1 (A.fI .mono 0 (A.get .mono x6.2.2.1 x6.1))),()))
(A.letT [.i] ((f_k31 ((A.arith .add .i64 x6.2.1 (A.fI .mono 0 (A.get .mono x6.2.2.1 x6.1))),())).1,()) fun x8=>
(A.letT [.i] (x8.1,()) fun x9=>
(A.letT [.i] ((A.arith .add .i64 x6.1 (A.lit 1)),()) fun x10=>
(A.inl [.i,.i,.l .mono,.x .mono,.l .mono] (x10.1,x9.1,x6.2.2.1,x6.2.2.2.1,x6.2.2.2.2.1,()))))))))))
(A.inr [.i,.i,.l .mono,.x .mono,.l .mono] (A.bind [.i,.l .mono,.l .mono]
(A.cond (A.cmp .gtr x6.2.1 (A.lit 0))
(A.chk (p_k33 ((A.fL .mono 1 .i64 x6.2.2.2.1),()))
(A.letT [.l .i64] ((f_k33 ((A.fL .mono 1 .i64 x6.2.2.2.1),())).1,()) fun x8=>
(A.letT [.l .mono] ((A.lst .mono [(A.mkX .mono (x6.2.1,x8.1,()))]),()) fun x9=>
(A.chk (A.cmp .leq (A.addN (A.len .mono x6.2.2.2.2.1) (A.len .mono x9.1)) (A.lit 1073741824))
(A.letT [.l .mono] ((A.app .mono x6.2.2.2.2.1 x9.1),()) fun x10=>
(A.ret [.i,.l .mono,.l .mono] (x6.1,x6.2.2.1,x10.1,())))))))
(A.ret [.i,.l .mono,.l .mono] (x6.1,x6.2.2.1,x6.2.2.2.2.1,())))
fun x8=>
(A.inl [.i,.l .mono,.l .mono] (x8.1,x8.2.1,x8.2.2.1,())))))))))))) (x3.1,x4.1,x3.2.1,x5.1,x3.2.2.1,()))))))))
(A.inr [.i,.l .mono,.l .mono] (A.chk (p_k10 ((A.mkX .poly (x3.2.2.1,())),()))
(A.letT [.b] ((f_k10 ((A.mkX .poly (x3.2.2.1,())),())).1,()) fun x4=>
(A.cond (A.notB x4.1)
(A.letT [.b] ((A.bl false),()) fun x5=>
(A.ret [.b,.l .mono,.l .mono] (x5.1,x3.2.1,(A.nilL .mono),())))
(A.letT [.b] ((A.bl true),()) fun x5=>
(A.ret [.b,.l .mono,.l .mono] (x5.1,x3.2.1,x3.2.2.1,()))))))))) (x2.1,x1.1,(A.nilL .mono),()))))))
def F_k57 (A:Alg) (x:Tup A.toCar [.i]):A.M (Tup A.toCar [.l .mono]):=
(A.cond (A.cmp .lss x.1 (A.lit 0))
 A.fail
(A.letT [.i] ((A.arith .sub .i64 x.1 (A.arith .sub .i64 (A.lit 0) (A.lit 0))),()) fun x0=>
(A.bind [.l .mono]
(A.cond (A.cmp .gtr x0.1 (A.lit 0))
(A.chk (A.cmp .eql (A.lit 0) (A.lit 0))
(A.chk (A.cmp .eql (A.lit 0) (A.lit 0))
(A.chk (A.cmp .leq (A.lit 0) x0.1)
(A.chk (A.cmp .leq x0.1 (A.lit 1073741824))
(A.chk (A.cmp .leq (A.len .mono (A.rep .mono x0.1 (A.mkX .mono ((A.lit 0),(A.nilL .i64),())))) (A.lit 1073741824))
(A.letT [.l .mono] ((A.rep .mono x0.1 (A.mkX .mono ((A.lit 0),(A.nilL .i64),()))),()) fun x1=>
(A.chk (A.cmp .leq (A.lit 0) (A.lit 0))
(A.chk (A.cmp .leq (A.lit 0) (A.lit 0))
(A.chk (A.cmp .leq (A.lit 0) (A.len .mono x1.1))
(A.chk (A.cmp .eql (A.lit 0) (A.lit 0))
(A.chk (A.cmp .leq (A.lit 0) (A.subN (A.lit 0) (A.lit 0)))
(A.chk (A.cmp .leq (A.subN (A.lit 0) (A.lit 0)) (A.len .mono x1.1))
(A.ret [.l .mono] ((A.sub .mono x1.1 (A.lit 0) (A.subN (A.lit 0) (A.lit 0))),()))))))))))))))
(A.ret [.l .mono] ((A.nilL .mono),())))
fun x1=>
(A.ret [.l .mono] (x1.1,())))))
def F_k53 (A:Alg) (p_k57:Tup A.toCar [.i]→A.B) (f_k57:Tup A.toCar [.i]→Tup A.toCar [.l .mono]) (x:Tup A.toCar [.l .poly]):A.M (Tup A.toCar [.l .mono]):=
(A.letT [.i] ((A.lit 0),()) fun x0=>
(A.iter [.l .poly,.i,.l .poly,.i,.i] (fun x1=>
(A.cond (A.cmp .lss x1.2.2.2.2.1 x1.2.2.2.1)
(A.chk (A.cmp .leq (A.lit 0) x1.2.2.2.2.1)
(A.chk (A.cmp .lss x1.2.2.2.2.1 (A.len .poly x1.2.2.1))
(A.letT [.l .mono] ((A.fL .poly 0 .mono (A.get .poly x1.2.2.1 x1.2.2.2.2.1)),()) fun x2=>
(A.letT [.i] ((A.arith .add .i64 x1.2.1 (A.len .mono x2.1)),()) fun x3=>
(A.cond (A.cmp .lss x3.1 (A.lit 0))
 A.fail
(A.inl [.l .poly,.i,.l .poly,.i,.i] (x1.1,x3.1,x1.2.2.1,x1.2.2.2.1,(A.arith .add .i64 x1.2.2.2.2.1 (A.lit 1)),())))))))
(A.inr [.l .poly,.i,.l .poly,.i,.i] (A.chk (p_k57 (x1.2.1,()))
(A.letT [.l .mono] ((f_k57 (x1.2.1,())).1,()) fun x2=>
(A.iter [.l .poly,.i,.i,.l .mono] (fun x3=>
(A.cond (A.cmp .lss x3.2.2.1 x3.2.1)
(A.chk (A.cmp .leq (A.lit 0) x3.2.2.1)
(A.chk (A.cmp .lss x3.2.2.1 (A.len .poly x3.1))
(A.letT [.l .mono] ((A.fL .poly 0 .mono (A.get .poly x3.1 x3.2.2.1)),()) fun x4=>
(A.chk (A.cmp .leq (A.addN (A.len .mono x3.2.2.2.1) (A.len .mono x4.1)) (A.lit 1073741824))
(A.letT [.l .mono] ((A.app .mono x3.2.2.2.1 x4.1),()) fun x5=>
(A.inl [.l .poly,.i,.i,.l .mono] (x3.1,x3.2.1,(A.arith .add .i64 x3.2.2.1 (A.lit 1)),x5.1,())))))))
(A.inr [.l .poly,.i,.i,.l .mono] (A.ret [.l .mono] (x3.2.2.2.1,()))))) (x1.1,(A.len .poly x1.1),(A.lit 0),x2.1,()))))))) (x.1,x0.1,x.1,(A.len .poly x.1),(A.lit 0),())))
def F_k4 (A:Alg) (p_k10:Tup A.toCar [.x .poly]→A.B) (f_k10:Tup A.toCar [.x .poly]→Tup A.toCar [.b]) (p_k38:Tup A.toCar [.l .mono]→A.B) (f_k38:Tup A.toCar [.l .mono]→Tup A.toCar [.b,.l .mono,.l .mono]) (p_k53:Tup A.toCar [.l .poly]→A.B) (f_k53:Tup A.toCar [.l .poly]→Tup A.toCar [.l .mono]) (x:Tup A.toCar [.x .poly,.x .poly]):A.M (Tup A.toCar [.b,.l .mono]):=
(A.letT [.b] ((A.bl false),()) fun x0=>
(A.chk (p_k10 (x.1,()))
(A.letT [.b] ((f_k10 (x.1,())).1,()) fun x1=>
(A.chk (A.orB (A.notB (A.notB (A.notB x1.1))) (p_k10 (x.2.1,())))
(A.letT [.b] ((f_k10 (x.2.1,())).1,()) fun x2=>
(A.cond (A.iteB (A.notB x1.1) (A.bl true) (A.notB x2.1))
(A.letT [.b] ((A.bl false),()) fun x3=>
(A.ret [.b,.l .mono] (x3.1,(A.nilL .mono),())))
(A.letT [.l .poly] ((A.lst .poly [(A.mkX .poly ((A.fL .poly 0 .mono x.1),())),(A.mkX .poly ((A.fL .poly 0 .mono x.2.1),()))]),()) fun x3=>
(A.chk (p_k53 (x3.1,()))
(A.letT [.l .mono] ((f_k53 (x3.1,())).1,()) fun x4=>
(A.chk (p_k38 (x4.1,()))
(A.letT [.b,.l .mono,.l .mono] ((f_k38 (x4.1,())).1,(f_k38 (x4.1,())).2.1,(f_k38 (x4.1,())).2.2.1,()) fun x5=>
(A.letT [.b] (x5.1,()) fun x6=>
(A.ret [.b,.l .mono] (x6.1,x5.2.2.1,()))))))))))))))
def F_k58 (A:Alg) (x:Tup A.toCar [.i]):A.M (Tup A.toCar [.l .i64]):=
(A.cond (A.cmp .lss x.1 (A.lit 0))
 A.fail
(A.letT [.i] ((A.arith .sub .i64 x.1 (A.arith .sub .i64 (A.lit 0) (A.lit 0))),()) fun x0=>
(A.bind [.l .i64]
(A.cond (A.cmp .gtr x0.1 (A.lit 0))
(A.chk (A.cmp .eql (A.lit 0) (A.lit 0))
(A.chk (A.cmp .eql (A.lit 0) (A.lit 0))
(A.chk (A.cmp .leq (A.lit 0) x0.1)
(A.chk (A.cmp .leq x0.1 (A.lit 1073741824))
(A.chk (A.cmp .leq (A.len .i64 (A.rep .i64 x0.1 (A.mkX .i64 ((A.lit 0),())))) (A.lit 1073741824))
(A.letT [.l .i64] ((A.rep .i64 x0.1 (A.mkX .i64 ((A.lit 0),()))),()) fun x1=>
(A.chk (A.cmp .leq (A.lit 0) (A.lit 0))
(A.chk (A.cmp .leq (A.lit 0) (A.lit 0))
(A.chk (A.cmp .leq (A.lit 0) (A.len .i64 x1.1))
(A.chk (A.cmp .eql (A.lit 0) (A.lit 0))
(A.chk (A.cmp .leq (A.lit 0) (A.subN (A.lit 0) (A.lit 0)))
(A.chk (A.cmp .leq (A.subN (A.lit 0) (A.lit 0)) (A.len .i64 x1.1))
(A.ret [.l .i64] ((A.sub .i64 x1.1 (A.lit 0) (A.subN (A.lit 0) (A.lit 0))),()))))))))))))))
(A.ret [.l .i64] ((A.nilL .i64),())))
fun x1=>
(A.ret [.l .i64] (x1.1,())))))
def F_k54 (A:Alg) (p_k58:Tup A.toCar [.i]→A.B) (f_k58:Tup A.toCar [.i]→Tup A.toCar [.l .i64]) (x:Tup A.toCar [.l .ints]):A.M (Tup A.toCar [.l .i64]):=
(A.letT [.i] ((A.lit 0),()) fun x0=>
(A.iter [.l .ints,.i,.l .ints,.i,.i] (fun x1=>
(A.cond (A.cmp .lss x1.2.2.2.2.1 x1.2.2.2.1)
(A.chk (A.cmp .leq (A.lit 0) x1.2.2.2.2.1)
(A.chk (A.cmp .lss x1.2.2.2.2.1 (A.len .ints x1.2.2.1))
(A.letT [.l .i64] ((A.fL .ints 0 .i64 (A.get .ints x1.2.2.1 x1.2.2.2.2.1)),()) fun x2=>
(A.letT [.i] ((A.arith .add .i64 x1.2.1 (A.len .i64 x2.1)),()) fun x3=>
(A.cond (A.cmp .lss x3.1 (A.lit 0))
 A.fail
(A.inl [.l .ints,.i,.l .ints,.i,.i] (x1.1,x3.1,x1.2.2.1,x1.2.2.2.1,(A.arith .add .i64 x1.2.2.2.2.1 (A.lit 1)),())))))))
(A.inr [.l .ints,.i,.l .ints,.i,.i] (A.chk (p_k58 (x1.2.1,()))
(A.letT [.l .i64] ((f_k58 (x1.2.1,())).1,()) fun x2=>
(A.iter [.l .ints,.i,.i,.l .i64] (fun x3=>
(A.cond (A.cmp .lss x3.2.2.1 x3.2.1)
(A.chk (A.cmp .leq (A.lit 0) x3.2.2.1)
(A.chk (A.cmp .lss x3.2.2.1 (A.len .ints x3.1))
(A.letT [.l .i64] ((A.fL .ints 0 .i64 (A.get .ints x3.1 x3.2.2.1)),()) fun x4=>
(A.chk (A.cmp .leq (A.addN (A.len .i64 x3.2.2.2.1) (A.len .i64 x4.1)) (A.lit 1073741824))
(A.letT [.l .i64] ((A.app .i64 x3.2.2.2.1 x4.1),()) fun x5=>
(A.inl [.l .ints,.i,.i,.l .i64] (x3.1,x3.2.1,(A.arith .add .i64 x3.2.2.1 (A.lit 1)),x5.1,())))))))
(A.inr [.l .ints,.i,.i,.l .i64] (A.ret [.l .i64] (x3.2.2.2.1,()))))) (x1.1,(A.len .ints x1.1),(A.lit 0),x2.1,()))))))) (x.1,x0.1,x.1,(A.len .ints x.1),(A.lit 0),())))
def F_k69 (A:Alg) (p_k1:Tup A.toCar [.i,.i]→A.B) (f_k1:Tup A.toCar [.i,.i]→Tup A.toCar [.b]) (x:Tup A.toCar [.i,.i,.l .i64]):A.M (Tup A.toCar [.l .i64]):=
(A.letT [.i] ((A.arith .add .i64 x.1 (A.lit 1)),()) fun x0=>
(A.iter [.i,.i,.i,.l .i64] (fun x1=>
(A.cond (A.cmp .lss x1.2.2.1 x1.2.1)
(A.letT [.i] (x1.2.2.1,()) fun x2=>
(A.iter [.i,.i,.i,.i,.l .i64] (fun x3=>
(A.chk (A.orB (A.notB (A.cmp .gtr x3.2.2.2.1 x3.1)) (A.cmp .leq (A.lit 0) x3.2.2.2.1))
(A.chk (A.orB (A.notB (A.cmp .gtr x3.2.2.2.1 x3.1)) (A.cmp .lss x3.2.2.2.1 (A.len .i64 x3.2.2.2.2.1)))
(A.chk (A.orB (A.notB (A.cmp .gtr x3.2.2.2.1 x3.1)) (A.cmp .leq (A.lit 0) x3.2.2.2.1))
(A.chk (A.orB (A.notB (A.cmp .gtr x3.2.2.2.1 x3.1)) (A.cmp .lss x3.2.2.2.1 (A.len .i64 x3.2.2.2.2.1)))
(A.chk (A.orB (A.notB (A.cmp .gtr x3.2.2.2.1 x3.1)) (A.cmp .leq (A.lit 0) (A.arith .sub .i64 x3.2.2.2.1 (A.lit 1))))
(A.chk (A.orB (A.notB (A.cmp .gtr x3.2.2.2.1 x3.1)) (A.cmp .lss (A.arith .sub .i64 x3.2.2.2.1 (A.lit 1)) (A.len .i64 x3.2.2.2.2.1)))
(A.chk (A.orB (A.notB (A.cmp .gtr x3.2.2.2.1 x3.1)) (A.cmp .leq (A.lit 0) (A.arith .sub .i64 x3.2.2.2.1 (A.lit 1))))
(A.chk (A.orB (A.notB (A.cmp .gtr x3.2.2.2.1 x3.1)) (A.cmp .lss (A.arith .sub .i64 x3.2.2.2.1 (A.lit 1)) (A.len .i64 x3.2.2.2.2.1)))
(A.chk (A.orB (A.notB (A.cmp .gtr x3.2.2.2.1 x3.1)) (p_k1 ((A.fI .i64 0 (A.get .i64 x3.2.2.2.2.1 x3.2.2.2.1)),(A.fI .i64 0 (A.get .i64 x3.2.2.2.2.1 (A.arith .sub .i64 x3.2.2.2.1 (A.lit 1)))),())))
(A.letT [.b] ((f_k1 ((A.fI .i64 0 (A.get .i64 x3.2.2.2.2.1 x3.2.2.2.1)),(A.fI .i64 0 (A.get .i64 x3.2.2.2.2.1 (A.arith .sub .i64 x3.2.2.2.1 (A.lit 1)))),())).1,()) fun x4=>
(A.cond (A.iteB (A.cmp .gtr x3.2.2.2.1 x3.1) x4.1 (A.bl false))
(A.chk (A.cmp .leq (A.lit 0) (A.arith .sub .i64 x3.2.2.2.1 (A.lit 1)))
(A.chk (A.cmp .lss (A.arith .sub .i64 x3.2.2.2.1 (A.lit 1)) (A.len .i64 x3.2.2.2.2.1))
(A.chk (A.cmp .leq (A.lit 0) (A.arith .sub .i64 x3.2.2.2.1 (A.lit 1)))
(A.chk (A.cmp .lss (A.arith .sub .i64 x3.2.2.2.1 (A.lit 1)) (A.len .i64 x3.2.2.2.2.1))
(A.chk (A.cmp .leq (A.lit 0) x3.2.2.2.1)
(A.chk (A.cmp .lss x3.2.2.2.1 (A.len .i64 x3.2.2.2.2.1))
(A.chk (A.cmp .leq (A.lit 0) x3.2.2.2.1)
(A.chk (A.cmp .lss x3.2.2.2.1 (A.len .i64 x3.2.2.2.2.1))
(A.chk (A.cmp .leq (A.lit 0) x3.2.2.2.1)
(A.chk (A.cmp .lss x3.2.2.2.1 (A.len .i64 x3.2.2.2.2.1))
(A.chk (A.cmp .leq (A.lit 0) x3.2.2.2.1)
(A.chk (A.cmp .lss x3.2.2.2.1 (A.len .i64 x3.2.2.2.2.1))
(A.letT [.i] ((A.fI .i64 0 (A.get .i64 x3.2.2.2.2.1 (A.arith .sub .i64 x3.2.2.2.1 (A.lit 1)))),()) fun x5=>
(A.chk (A.cmp .leq (A.lit 0) (A.arith .sub .i64 x3.2.2.2.1 (A.lit 1)))
(A.chk (A.cmp .lss (A.arith .sub .i64 x3.2.2.2.1 (A.lit 1)) (A.len .i64 (A.set .i64 x3.2.2.2.2.1 x3.2.2.2.1 (A.mkX .i64 (x5.1,())))))
(A.chk (A.cmp .leq (A.lit 0) (A.arith .sub .i64 x3.2.2.2.1 (A.lit 1)))
(A.chk (A.cmp .lss (A.arith .sub .i64 x3.2.2.2.1 (A.lit 1)) (A.len .i64 (A.set .i64 x3.2.2.2.2.1 x3.2.2.2.1 (A.mkX .i64 (x5.1,())))))
(A.letT [.i] ((A.fI .i64 0 (A.get .i64 x3.2.2.2.2.1 x3.2.2.2.1)),()) fun x6=>
(A.letT [.i] ((A.arith .sub .i64 x3.2.2.2.1 (A.lit 1)),()) fun x7=>
(A.inl [.i,.i,.i,.i,.l .i64] (x3.1,x3.2.1,x3.2.2.1,x7.1,(A.set .i64 (A.set .i64 x3.2.2.2.2.1 x3.2.2.2.1 (A.mkX .i64 (x5.1,()))) (A.arith .sub .i64 x3.2.2.2.1 (A.lit 1)) (A.mkX .i64 (x6.1,()))),())))))))))))))))))))))
(A.inr [.i,.i,.i,.i,.l .i64] (A.letT [.i] ((A.arith .add .i64 x3.2.2.1 (A.lit 1)),()) fun x5=>
(A.inl [.i,.i,.i,.l .i64] (x3.1,x3.2.1,x5.1,x3.2.2.2.2.1,())))))))))))))))) (x1.1,x1.2.1,x1.2.2.1,x2.1,x1.2.2.2.1,())))
(A.inr [.i,.i,.i,.l .i64] (A.ret [.l .i64] (x1.2.2.2.1,()))))) (x.1,x.2.1,x0.1,x.2.2.1,())))
def F_k73 (A:Alg) (p_k1:Tup A.toCar [.i,.i]→A.B) (f_k1:Tup A.toCar [.i,.i]→Tup A.toCar [.b]) (p_k69:Tup A.toCar [.i,.i,.l .i64]→A.B) (f_k69:Tup A.toCar [.i,.i,.l .i64]→Tup A.toCar [.l .i64]) (p_k67:Tup A.toCar [.i,.i,.l .i64]→A.B) (f_k67:Tup A.toCar [.i,.i,.l .i64]→Tup A.toCar [.l .i64]) (p_k65:Tup A.toCar [.i,.i,.l .i64]→A.B) (f_k65:Tup A.toCar [.i,.i,.l .i64]→Tup A.toCar [.l .i64]) (p_k66:Tup A.toCar [.i,.i,.l .i64]→A.B) (f_k66:Tup A.toCar [.i,.i,.l .i64]→Tup A.toCar [.i,.i,.l .i64]) (p_k74:Tup A.toCar [.i,.i,.l .i64]→A.B) (f_k74:Tup A.toCar [.i,.i,.l .i64]→Tup A.toCar [.l .i64]) (p_k70:Tup A.toCar [.i,.i,.l .i64]→A.B) (f_k70:Tup A.toCar [.i,.i,.l .i64]→Tup A.toCar [.b,.l .i64]) (p_k71:Tup A.toCar [.i,.i,.i,.l .i64]→A.B) (f_k71:Tup A.toCar [.i,.i,.i,.l .i64]→Tup A.toCar [.i,.l .i64]) (p_k72:Tup A.toCar [.i,.i,.i,.l .i64]→A.B) (f_k72:Tup A.toCar [.i,.i,.i,.l .i64]→Tup A.toCar [.i,.b,.l .i64]) (p_k73:Tup A.toCar [.i,.i,.i,.l .i64]→A.B) (f_k73:Tup A.toCar [.i,.i,.i,.l .i64]→Tup A.toCar [.l .i64]) (x:Tup A.toCar [.i,.i,.i,.l .i64]):A.M (Tup A.toCar [.l .i64]):=
(A.letT [.b] ((A.bl true),()) fun x0=>
(A.letT [.b] ((A.bl true),()) fun x1=>
(A.iter [.i,.i,.i,.b,.b,.l .i64] (fun x2=>
(A.bindS [.i,.i,.i,.b,.b,.l .i64]
(A.letT [.i] ((A.arith .sub .i64 x2.2.1 x2.1),()) fun x3=>
(A.cond (A.cmp .leq x3.1 (A.lit 12))
(A.chk (p_k69 (x2.1,x2.2.1,x2.2.2.2.2.2.1,()))
(A.letT [.l .i64] ((f_k69 (x2.1,x2.2.1,x2.2.2.2.2.2.1,())).1,()) fun x4=>
(A.inr [.i,.i,.i,.b,.b,.l .i64] (A.inr [.i,.i,.i,.b,.b,.l .i64] (A.ret [.l .i64] (x4.1,()))))))
(A.cond (A.cmp .eql x2.2.2.1 (A.lit 0))
(A.chk (p_k67 (x2.1,x2.2.1,x2.2.2.2.2.2.1,()))
(A.letT [.l .i64] ((f_k67 (x2.1,x2.2.1,x2.2.2.2.2.2.1,())).1,()) fun x4=>
(A.inr [.i,.i,.i,.b,.b,.l .i64] (A.inr [.i,.i,.i,.b,.b,.l .i64] (A.ret [.l .i64] (x4.1,()))))))
(A.bind [.i,.i,.i,.b,.b,.i,.l .i64]
(A.cond (A.notB x2.2.2.2.1)
(A.chk (p_k65 (x2.1,x2.2.1,x2.2.2.2.2.2.1,()))
(A.letT [.l .i64] ((f_k65 (x2.1,x2.2.1,x2.2.2.2.2.2.1,())).1,()) fun x4=>
(A.letT [.i] ((A.arith .sub .i64 x2.2.2.1 (A.lit 1)),()) fun x5=>
(A.ret [.i,.i,.i,.b,.b,.i,.l .i64] (x2.1,x2.2.1,x5.1,x2.2.2.2.1,x2.2.2.2.2.1,x3.1,x4.1,())))))
(A.ret [.i,.i,.i,.b,.b,.i,.l .i64] (x2.1,x2.2.1,x2.2.2.1,x2.2.2.2.1,x2.2.2.2.2.1,x3.1,x2.2.2.2.2.2.1,())))
fun x4=>
(A.chk (p_k66 (x4.1,x4.2.1,x4.2.2.2.2.2.2.1,()))
(A.letT [.i,.i,.l .i64] ((f_k66 (x4.1,x4.2.1,x4.2.2.2.2.2.2.1,())).1,(f_k66 (x4.1,x4.2.1,x4.2.2.2.2.2.2.1,())).2.1,(f_k66 (x4.1,x4.2.1,x4.2.2.2.2.2.2.1,())).2.2.1,()) fun x5=>
(A.letT [.i] (x5.1,()) fun x6=>
(A.letT [.i] (x5.2.1,()) fun x7=>
(A.bind [.i,.i,.i,.b,.b,.i,.i,.i,.l .i64]
(A.cond (A.cmp .eql x7.1 (A.lit 2))
(A.chk (p_k74 (x4.1,x4.2.1,x5.2.2.1,()))
(A.letT [.l .i64] ((f_k74 (x4.1,x4.2.1,x5.2.2.1,())).1,()) fun x8=>
(A.letT [.i] ((A.arith .sub .i64 (A.arith .sub .i64 x4.2.1 (A.lit 1)) (A.arith .sub .i64 x6.1 x4.1)),()) fun x9=>
(A.letT [.i] ((A.lit 1),()) fun x10=>
(A.ret [.i,.i,.i,.b,.b,.i,.i,.i,.l .i64] (x4.1,x4.2.1,x4.2.2.1,x4.2.2.2.1,x4.2.2.2.2.1,x4.2.2.2.2.2.1,x9.1,x10.1,x8.1,()))))))
(A.ret [.i,.i,.i,.b,.b,.i,.i,.i,.l .i64] (x4.1,x4.2.1,x4.2.2.1,x4.2.2.2.1,x4.2.2.2.2.1,x4.2.2.2.2.2.1,x6.1,x7.1,x5.2.2.1,())))
fun x8=>
(A.bindS [.i,.i,.i,.b,.b,.i,.i,.l .i64]
(A.cond (A.iteB (A.iteB x8.2.2.2.1 x8.2.2.2.2.1 (A.bl false)) (A.cmp .eql x8.2.2.2.2.2.2.2.1 (A.lit 1)) (A.bl false))
(A.chk (p_k70 (x8.1,x8.2.1,x8.2.2.2.2.2.2.2.2.1,()))
(A.letT [.b,.l .i64] ((f_k70 (x8.1,x8.2.1,x8.2.2.2.2.2.2.2.2.1,())).1,(f_k70 (x8.1,x8.2.1,x8.2.2.2.2.2.2.2.2.1,())).2.1,()) fun x9=>
(A.cond x9.1
(A.inr [.i,.i,.i,.b,.b,.i,.i,.l .i64] (A.inr [.i,.i,.i,.b,.b,.l .i64] (A.inr [.i,.i,.i,.b,.b,.l .i64] (A.ret [.l .i64] (x9.2.1,())))))
(A.inl [.i,.i,.i,.b,.b,.i,.i,.l .i64] (x8.1,x8.2.1,x8.2.2.1,x8.2.2.2.1,x8.2.2.2.2.1,x8.2.2.2.2.2.1,x8.2.2.2.2.2.2.1,x9.2.1,())))))
(A.inl [.i,.i,.i,.b,.b,.i,.i,.l .i64] (x8.1,x8.2.1,x8.2.2.1,x8.2.2.2.1,x8.2.2.2.2.1,x8.2.2.2.2.2.1,x8.2.2.2.2.2.2.1,x8.2.2.2.2.2.2.2.2.1,())))
fun x9=>
(A.chk (A.orB (A.notB (A.cmp .gtr x9.1 (A.lit 0))) (A.cmp .leq (A.lit 0) (A.arith .sub .i64 x9.1 (A.lit 1))))
(A.chk (A.orB (A.notB (A.cmp .gtr x9.1 (A.lit 0))) (A.cmp .lss (A.arith .sub .i64 x9.1 (A.lit 1)) (A.len .i64 x9.2.2.2.2.2.2.2.1)))
(A.chk (A.orB (A.notB (A.cmp .gtr x9.1 (A.lit 0))) (A.cmp .leq (A.lit 0) (A.arith .sub .i64 x9.1 (A.lit 1))))
(A.chk (A.orB (A.notB (A.cmp .gtr x9.1 (A.lit 0))) (A.cmp .lss (A.arith .sub .i64 x9.1 (A.lit 1)) (A.len .i64 x9.2.2.2.2.2.2.2.1)))
(A.chk (A.orB (A.notB (A.cmp .gtr x9.1 (A.lit 0))) (A.cmp .leq (A.lit 0) x9.2.2.2.2.2.2.1))
(A.chk (A.orB (A.notB (A.cmp .gtr x9.1 (A.lit 0))) (A.cmp .lss x9.2.2.2.2.2.2.1 (A.len .i64 x9.2.2.2.2.2.2.2.1)))
(A.chk (A.orB (A.notB (A.cmp .gtr x9.1 (A.lit 0))) (A.cmp .leq (A.lit 0) x9.2.2.2.2.2.2.1))
(A.chk (A.orB (A.notB (A.cmp .gtr x9.1 (A.lit 0))) (A.cmp .lss x9.2.2.2.2.2.2.1 (A.len .i64 x9.2.2.2.2.2.2.2.1)))
(A.chk (A.orB (A.notB (A.cmp .gtr x9.1 (A.lit 0))) (p_k1 ((A.fI .i64 0 (A.get .i64 x9.2.2.2.2.2.2.2.1 (A.arith .sub .i64 x9.1 (A.lit 1)))),(A.fI .i64 0 (A.get .i64 x9.2.2.2.2.2.2.2.1 x9.2.2.2.2.2.2.1)),())))
(A.letT [.b] ((f_k1 ((A.fI .i64 0 (A.get .i64 x9.2.2.2.2.2.2.2.1 (A.arith .sub .i64 x9.1 (A.lit 1)))),(A.fI .i64 0 (A.get .i64 x9.2.2.2.2.2.2.2.1 x9.2.2.2.2.2.2.1)),())).1,()) fun x10=>
(A.cond (A.iteB (A.cmp .gtr x9.1 (A.lit 0)) (A.notB x10.1) (A.bl false))
(A.chk (p_k71 (x9.1,x9.2.1,x9.2.2.2.2.2.2.1,x9.2.2.2.2.2.2.2.1,()))
(A.letT [.i,.l .i64] ((f_k71 (x9.1,x9.2.1,x9.2.2.2.2.2.2.1,x9.2.2.2.2.2.2.2.1,())).1,(f_k71 (x9.1,x9.2.1,x9.2.2.2.2.2.2.1,x9.2.2.2.2.2.2.2.1,())).2.1,()) fun x11=>
(A.letT [.i] (x11.1,()) fun x12=>
(A.letT [.i] (x12.1,()) fun x13=>
(A.inl [.i,.i,.i,.b,.b,.l .i64] (x13.1,x9.2.1,x9.2.2.1,x9.2.2.2.1,x9.2.2.2.2.1,x11.2.1,()))))))
(A.chk (p_k72 (x9.1,x9.2.1,x9.2.2.2.2.2.2.1,x9.2.2.2.2.2.2.2.1,()))
(A.letT [.i,.b,.l .i64] ((f_k72 (x9.1,x9.2.1,x9.2.2.2.2.2.2.1,x9.2.2.2.2.2.2.2.1,())).1,(f_k72 (x9.1,x9.2.1,x9.2.2.2.2.2.2.1,x9.2.2.2.2.2.2.2.1,())).2.1,(f_k72 (x9.1,x9.2.1,x9.2.2.2.2.2.2.1,x9.2.2.2.2.2.2.2.1,())).2.2.1,()) fun x11=>
(A.letT [.i] (x11.1,()) fun x12=>
(A.letT [.b] (x11.2.1,()) fun x13=>
(A.letT [.b] (x13.1,()) fun x14=>
(A.letT [.i] ((A.arith .sub .i64 x12.1 x9.1),()) fun x15=>
(A.letT [.i] ((A.arith .sub .i64 x9.2.1 x12.1),()) fun x16=>
(A.chk (A.cmp .neq (A.lit 8) (A.lit 0))
(A.letT [.i] ((A.arith .quo .i64 x9.2.2.2.2.2.1 (A.lit 8)),()) fun x17=>
(A.bind [.i,.i,.i,.b,.b,.l .i64]
(A.cond (A.cmp .lss x15.1 x16.1)
(A.letT [.b] ((A.cmp .geq x15.1 x17.1),()) fun x18=>
(A.chk (p_k73 (x9.1,x12.1,x9.2.2.1,x11.2.2.1,()))
(A.letT [.l .i64] ((f_k73 (x9.1,x12.1,x9.2.2.1,x11.2.2.1,())).1,()) fun x19=>
(A.letT [.i] ((A.arith .add .i64 x12.1 (A.lit 1)),()) fun x20=>
(A.ret [.i,.i,.i,.b,.b,.l .i64] (x20.1,x9.2.1,x9.2.2.1,x18.1,x14.1,x19.1,()))))))
(A.letT [.b] ((A.cmp .geq x16.1 x17.1),()) fun x18=>
(A.chk (p_k73 ((A.arith .add .i64 x12.1 (A.lit 1)),x9.2.1,x9.2.2.1,x11.2.2.1,()))
(A.letT [.l .i64] ((f_k73 ((A.arith .add .i64 x12.1 (A.lit 1)),x9.2.1,x9.2.2.1,x11.2.2.1,())).1,()) fun x19=>
(A.letT [.i] (x12.1,()) fun x20=>
(A.ret [.i,.i,.i,.b,.b,.l .i64] (x9.1,x20.1,x9.2.2.1,x18.1,x14.1,x19.1,())))))))
fun x18=>
(A.inl [.i,.i,.i,.b,.b,.l .i64] (x18.1,x18.2.1,x18.2.2.1,x18.2.2.2.1,x18.2.2.2.2.1,x18.2.2.2.2.2.1,())))))))))))))))))))))))))))))))))
fun x3=>
(A.inl [.i,.i,.i,.b,.b,.l .i64] (x3.1,x3.2.1,x3.2.2.1,x3.2.2.2.1,x3.2.2.2.2.1,x3.2.2.2.2.2.1,())))) (x.1,x.2.1,x.2.2.1,x0.1,x1.1,x.2.2.2.1,()))))
def F_k64 (A:Alg) (p_k73:Tup A.toCar [.i,.i,.i,.l .i64]→A.B) (f_k73:Tup A.toCar [.i,.i,.i,.l .i64]→Tup A.toCar [.l .i64]) (p_k50:Tup A.toCar [.i]→A.B) (f_k50:Tup A.toCar [.i]→Tup A.toCar [.i]) (x:Tup A.toCar [.l .i64]):A.M (Tup A.toCar [.l .i64]):=
(A.letT [.i] ((A.len .i64 x.1),()) fun x0=>
(A.chk (p_k50 ((A.conv .u64 x0.1),()))
(A.letT [.i] ((f_k50 ((A.conv .u64 x0.1),())).1,()) fun x1=>
(A.chk (p_k73 ((A.lit 0),x0.1,x1.1,x.1,()))
(A.letT [.l .i64] ((f_k73 ((A.lit 0),x0.1,x1.1,x.1,())).1,()) fun x2=>
(A.ret [.l .i64] (x2.1,())))))))
def F_k8 (A:Alg) (p_k10:Tup A.toCar [.x .poly]→A.B) (f_k10:Tup A.toCar [.x .poly]→Tup A.toCar [.b]) (p_k31:Tup A.toCar [.i]→A.B) (f_k31:Tup A.toCar [.i]→Tup A.toCar [.i]) (p_k38:Tup A.toCar [.l .mono]→A.B) (f_k38:Tup A.toCar [.l .mono]→Tup A.toCar [.b,.l .mono,.l .mono]) (p_k54:Tup A.toCar [.l .ints]→A.B) (f_k54:Tup A.toCar [.l .ints]→Tup A.toCar [.l .i64]) (p_k64:Tup A.toCar [.l .i64]→A.B) (f_k64:Tup A.toCar [.l .i64]→Tup A.toCar [.l .i64]) (x:Tup A.toCar [.x .poly,.x .poly]):A.M (Tup A.toCar [.b,.l .mono]):=
(A.letT [.b] ((A.bl false),()) fun x0=>
(A.chk (p_k10 (x.1,()))
(A.letT [.b] ((f_k10 (x.1,())).1,()) fun x1=>
(A.chk (A.orB (A.notB (A.notB (A.notB x1.1))) (p_k10 (x.2.1,())))
(A.letT [.b] ((f_k10 (x.2.1,())).1,()) fun x2=>
(A.cond (A.iteB (A.notB x1.1) (A.bl true) (A.notB x2.1))
(A.letT [.b] ((A.bl false),()) fun x3=>
(A.ret [.b,.l .mono] (x3.1,(A.nilL .mono),())))
(A.iter [.l .mono,.i,.i,.x .poly,.l .mono] (fun x3=>
(A.cond (A.cmp .lss x3.2.2.1 x3.2.1)
(A.chk (A.cmp .leq (A.lit 0) x3.2.2.1)
(A.chk (A.cmp .lss x3.2.2.1 (A.len .mono x3.1))
(A.letT [.x .mono] ((A.get .mono x3.1 x3.2.2.1),()) fun x4=>
(A.iter [.l .mono,.i,.i,.l .mono,.i,.i,.x .poly,.l .mono,.x .mono] (fun x5=>
(A.cond (A.cmp .lss x5.2.2.2.2.2.1 x5.2.2.2.2.1)
(A.chk (A.cmp .leq (A.lit 0) x5.2.2.2.2.2.1)
(A.chk (A.cmp .lss x5.2.2.2.2.2.1 (A.len .mono x5.2.2.2.1))
(A.letT [.x .mono] ((A.get .mono x5.2.2.2.1 x5.2.2.2.2.2.1),()) fun x6=>
(A.letT [.l .ints] ((A.lst .ints [(A.mkX .ints ((A.fL .mono 1 .i64 x5.2.2.2.2.2.2.2.2.1),())),(A.mkX .ints ((A.fL .mono 1 .i64 x6.1),()))]),()) fun x7=>
(A.chk (p_k54 (x7.1,()))
(A.letT [.l .i64] ((f_k54 (x7.1,())).1,()) fun x8=>
(A.chk (p_k64 (x8.1,()))
(A.letT [.l .i64] ((f_k64 (x8.1,())).1,()) fun x9=>
(A.chk (p_k31 ((A.arith .mul .i64 (A.fI .mono 0 x5.2.2.2.2.2.2.2.2.1) (A.fI .mono 0 x6.1)),()))
(A.letT [.i] ((f_k31 ((A.arith .mul .i64 (A.fI .mono 0 x5.2.2.2.2.2.2.2.2.1) (A.fI .mono 0 x6.1)),())).1,()) fun x10=>
(A.letT [.l .mono] ((A.lst .mono [(A.mkX .mono (x10.1,x9.1,()))]),()) fun x11=>
(A.chk (A.cmp .leq (A.addN (A.len .mono x5.2.2.2.2.2.2.2.1) (A.len .mono x11.1)) (A.lit 1073741824))
(A.letT [.l .mono] ((A.app .mono x5.2.2.2.2.2.2.2.1 x11.1),()) fun x12=>
(A.inl [.l .mono,.i,.i,.l .mono,.i,.i,.x .poly,.l .mono,.x .mono] (x5.1,x5.2.1,x5.2.2.1,x5.2.2.2.1,x5.2.2.2.2.1,(A.arith .add .i64 x5.2.2.2.2.2.1 (A.lit 1)),x5.2.2.2.2.2.2.1,x12.1,x5.2.2.2.2.2.2.2.2.1,())))))))))))))))
(A.inr [.l .mono,.i,.i,.l .mono,.i,.i,.x .poly,.l .mono,.x .mono] (A.inl [.l .mono,.i,.i,.x .poly,.l .mono] (x5.1,x5.2.1,(A.arith .add .i64 x5.2.2.1 (A.lit 1)),x5.2.2.2.2.2.2.1,x5.2.2.2.2.2.2.2.1,()))))) (x3.1,x3.2.1,x3.2.2.1,(A.fL .poly 0 .mono x3.2.2.2.1),(A.len .mono (A.fL .poly 0 .mono x3.2.2.2.1)),(A.lit 0),x3.2.2.2.1,x3.2.2.2.2.1,x4.1,())))))
(A.inr [.l .mono,.i,.i,.x .poly,.l .mono] (A.chk (p_k38 (x3.2.2.2.2.1,()))
(A.letT [.b,.l .mono,.l .mono] ((f_k38 (x3.2.2.2.2.1,())).1,(f_k38 (x3.2.2.2.2.1,())).2.1,(f_k38 (x3.2.2.2.2.1,())).2.2.1,()) fun x4=>
(A.letT [.b] (x4.1,()) fun x5=>
(A.ret [.b,.l .mono] (x5.1,x4.2.2.1,())))))))) ((A.fL .poly 0 .mono x.1),(A.len .mono (A.fL .poly 0 .mono x.1)),(A.lit 0),x.2.1,(A.nilL .mono),()))))))))
def F_k13 (A:Alg) (p_k10:Tup A.toCar [.x .poly]→A.B) (f_k10:Tup A.toCar [.x .poly]→Tup A.toCar [.b]) (p_k6:Tup A.toCar [.i]→A.B) (f_k6:Tup A.toCar [.i]→Tup A.toCar [.l .mono]) (p_k30:Tup A.toCar [.i]→A.B) (f_k30:Tup A.toCar [.i]→Tup A.toCar [.b]) (p_k8:Tup A.toCar [.x .poly,.x .poly]→A.B) (f_k8:Tup A.toCar [.x .poly,.x .poly]→Tup A.toCar [.b,.l .mono]) (x:Tup A.toCar [.x .poly,.i]):A.M (Tup A.toCar [.l .mono]):=
(A.chk (p_k10 (x.1,()))
(A.letT [.b] ((f_k10 (x.1,())).1,()) fun x0=>
(A.chk (A.orB (A.notB (A.notB (A.notB x0.1))) (p_k30 (x.2.1,())))
(A.letT [.b] ((f_k30 (x.2.1,())).1,()) fun x1=>
(A.cond (A.iteB (A.notB x0.1) (A.bl true) (A.notB x1.1))
(A.ret [.l .mono] ((A.nilL .mono),()))
(A.chk (p_k6 (x.2.1,()))
(A.letT [.l .mono] ((f_k6 (x.2.1,())).1,()) fun x2=>
(A.chk (p_k8 (x.1,(A.mkX .poly (x2.1,())),()))
(A.letT [.b,.l .mono] ((f_k8 (x.1,(A.mkX .poly (x2.1,())),())).1,(f_k8 (x.1,(A.mkX .poly (x2.1,())),())).2.1,()) fun x3=>
(A.letT [.b] (x3.1,()) fun x4=>
(A.ret [.l .mono] (x3.2.1,()))))))))))))
def F_k9 (A:Alg) (p_k10:Tup A.toCar [.x .poly]→A.B) (f_k10:Tup A.toCar [.x .poly]→Tup A.toCar [.b]) (x:Tup A.toCar [.x .poly]):A.M (Tup A.toCar [.i,.b]):=
(A.letT [.i] ((A.lit 0),()) fun x0=>
(A.letT [.b] ((A.bl false),()) fun x1=>
(A.chk (p_k10 (x.1,()))
(A.letT [.b] ((f_k10 (x.1,())).1,()) fun x2=>
(A.letT [.b] ((A.notB x2.1),()) fun x3=>
(A.cond x3.1
(A.letT [.i] ((A.lit 0),()) fun x4=>
(A.letT [.b] ((A.bl false),()) fun x5=>
(A.ret [.i,.b] (x4.1,x5.1,()))))
(A.letT [.b] ((A.cmp .eql (A.len .mono (A.fL .poly 0 .mono x.1)) (A.lit 0)),()) fun x4=>
(A.cond x4.1
(A.letT [.i] ((A.lit 0),()) fun x5=>
(A.letT [.b] ((A.bl true),()) fun x6=>
(A.ret [.i,.b] (x5.1,x6.1,()))))
(A.chk (A.orB (A.notB (A.cmp .eql (A.len .mono (A.fL .poly 0 .mono x.1)) (A.lit 1))) (A.cmp .leq (A.lit 0) (A.lit 0)))
(A.chk (A.orB (A.notB (A.cmp .eql (A.len .mono (A.fL .poly 0 .mono x.1)) (A.lit 1))) (A.cmp .lss (A.lit 0) (A.len .mono (A.fL .poly 0 .mono x.1))))
(A.letT [.b] ((A.iteB (A.cmp .eql (A.len .mono (A.fL .poly 0 .mono x.1)) (A.lit 1)) (A.cmp .eql (A.len .i64 (A.fL .mono 1 .i64 (A.get .mono (A.fL .poly 0 .mono x.1) (A.lit 0)))) (A.lit 0)) (A.bl false)),()) fun x5=>
(A.cond x5.1
(A.chk (A.cmp .leq (A.lit 0) (A.lit 0))
(A.chk (A.cmp .lss (A.lit 0) (A.len .mono (A.fL .poly 0 .mono x.1)))
(A.letT [.i] ((A.fI .mono 0 (A.get .mono (A.fL .poly 0 .mono x.1) (A.lit 0))),()) fun x6=>
(A.letT [.b] ((A.bl true),()) fun x7=>
(A.ret [.i,.b] (x6.1,x7.1,()))))))
(A.letT [.i] ((A.lit 0),()) fun x6=>
(A.letT [.b] ((A.bl false),()) fun x7=>
(A.ret [.i,.b] (x6.1,x7.1,()))))))))))))))))
def F_k37 (A:Alg) (p_k28:Tup A.toCar [.x .poly,.x .poly]→A.B) (f_k28:Tup A.toCar [.x .poly,.x .poly]→Tup A.toCar [.b]) (p_k6:Tup A.toCar [.i]→A.B) (f_k6:Tup A.toCar [.i]→Tup A.toCar [.l .mono]) (p_k29:Tup A.toCar [.i,.i,.i]→A.B) (f_k29:Tup A.toCar [.i,.i,.i]→Tup A.toCar [.i]) (p_k4:Tup A.toCar [.x .poly,.x .poly]→A.B) (f_k4:Tup A.toCar [.x .poly,.x .poly]→Tup A.toCar [.b,.l .mono]) (p_k8:Tup A.toCar [.x .poly,.x .poly]→A.B) (f_k8:Tup A.toCar [.x .poly,.x .poly]→Tup A.toCar [.b,.l .mono]) (p_k13:Tup A.toCar [.x .poly,.i]→A.B) (f_k13:Tup A.toCar [.x .poly,.i]→Tup A.toCar [.l .mono]) (p_k9:Tup A.toCar [.x .poly]→A.B) (f_k9:Tup A.toCar [.x .poly]→Tup A.toCar [.i,.b]) (x:Tup A.toCar [.i,.x .poly,.x .poly]):A.M (Tup A.toCar [.x .poly,.b]):=
(A.letT [.b] ((A.bl false),()) fun x0=>
(A.letT [.b] ((A.cmp .eql x.1 (A.lit 1)),()) fun x1=>
(A.cond x1.1
(A.chk (p_k4 (x.2.1,x.2.2.1,()))
(A.letT [.b,.l .mono] ((f_k4 (x.2.1,x.2.2.1,())).1,(f_k4 (x.2.1,x.2.2.1,())).2.1,()) fun x2=>
(A.letT [.b] (x2.1,()) fun x3=>
(A.ret [.x .poly,.b] ((A.mkX .poly (x2.2.1,())),x3.1,())))))
(A.letT [.b] ((A.cmp .eql x.1 (A.lit 2)),()) fun x2=>
(A.cond x2.1
(A.chk (p_k13 (x.2.2.1,(A.lit 65535),()))
(A.letT [.l .mono] ((f_k13 (x.2.2.1,(A.lit 65535),())).1,()) fun x3=>
(A.chk (p_k4 (x.2.1,(A.mkX .poly (x3.1,())),()))
(A.letT [.b,.l .mono] ((f_k4 (x.2.1,(A.mkX .poly (x3.1,())),())).1,(f_k4 (x.2.1,(A.mkX .poly (x3.1,())),())).2.1,()) fun x4=>
(A.letT [.b] (x4.1,()) fun x5=>
(A.ret [.x .poly,.b] ((A.mkX .poly (x4.2.1,())),x5.1,())))))))
(A.letT [.b] ((A.cmp .eql x.1 (A.lit 3)),()) fun x3=>
(A.cond x3.1
(A.chk (p_k8 (x.2.1,x.2.2.1,()))
(A.letT [.b,.l .mono] ((f_k8 (x.2.1,x.2.2.1,())).1,(f_k8 (x.2.1,x.2.2.1,())).2.1,()) fun x4=>
(A.letT [.b] (x4.1,()) fun x5=>
(A.ret [.x .poly,.b] ((A.mkX .poly (x4.2.1,())),x5.1,())))))
(A.chk (p_k9 (x.2.1,()))
(A.letT [.i,.b] ((f_k9 (x.2.1,())).1,(f_k9 (x.2.1,())).2.1,()) fun x4=>
(A.letT [.i] (x4.1,()) fun x5=>
(A.letT [.b] (x4.2.1,()) fun x6=>
(A.chk (p_k9 (x.2.2.1,()))
(A.letT [.i,.b] ((f_k9 (x.2.2.1,())).1,(f_k9 (x.2.2.1,())).2.1,()) fun x7=>
(A.letT [.i] (x7.1,()) fun x8=>
(A.letT [.b] (x7.2.1,()) fun x9=>
(A.letT [.b] ((A.iteB x6.1 x9.1 (A.bl false)),()) fun x10=>
(A.cond x10.1
(A.chk (p_k29 (x.1,x5.1,x8.1,()))
(A.letT [.i] ((f_k29 (x.1,x5.1,x8.1,())).1,()) fun x11=>
(A.chk (p_k6 (x11.1,()))
(A.letT [.l .mono] ((f_k6 (x11.1,())).1,()) fun x12=>
(A.letT [.b] ((A.bl true),()) fun x13=>
(A.ret [.x .poly,.b] ((A.mkX .poly (x12.1,())),x13.1,())))))))
(A.chk (p_k28 (x.2.1,x.2.2.1,()))
(A.letT [.b] ((f_k28 (x.2.1,x.2.2.1,())).1,()) fun x11=>
(A.letT [.b] ((A.iteB x11.1 (A.cmp .eql x.1 (A.lit 4)) (A.bl false)),()) fun x12=>
(A.cond x12.1
(A.letT [.x .poly] (x.2.1,()) fun x13=>
(A.letT [.b] ((A.bl true),()) fun x14=>
(A.ret [.x .poly,.b] (x13.1,x14.1,()))))
(A.chk (p_k28 (x.2.1,x.2.2.1,()))
(A.letT [.b] ((f_k28 (x.2.1,x.2.2.1,())).1,()) fun x13=>
(A.letT [.b] (x13.1,()) fun x14=>
(A.cond x14.1
(A.letT [.b] ((A.bl true),()) fun x15=>
(A.ret [.x .poly,.b] ((A.mkX .poly ((A.nilL .mono),())),x15.1,())))
(A.bind [.i,.i,.b,.x .poly]
(A.cond x6.1
(A.letT [.x .poly] (x.2.2.1,()) fun x15=>
(A.letT [.i] (x5.1,()) fun x16=>
(A.letT [.b] ((A.bl true),()) fun x17=>
(A.ret [.i,.i,.b,.x .poly] (x.1,x16.1,x17.1,x15.1,())))))
(A.ret [.i,.i,.b,.x .poly] (x.1,x8.1,x9.1,x.2.1,())))
fun x15=>
(A.letT [.b] ((A.iteB (A.iteB x15.2.2.1 (A.cmp .eql x15.1 (A.lit 4)) (A.bl false)) (A.cmp .eql x15.2.1 (A.lit 0)) (A.bl false)),()) fun x16=>
(A.cond x16.1
(A.letT [.b] ((A.bl true),()) fun x17=>
(A.ret [.x .poly,.b] ((A.mkX .poly ((A.nilL .mono),())),x17.1,())))
(A.letT [.b] ((A.iteB x15.2.2.1 (A.iteB (A.iteB (A.cmp .eql x15.1 (A.lit 4)) (A.cmp .eql x15.2.1 (A.lit 65535)) (A.bl false)) (A.bl true) (A.iteB (A.cmp .eql x15.1 (A.lit 5)) (A.cmp .eql x15.2.1 (A.lit 0)) (A.bl false))) (A.bl false)),()) fun x17=>
(A.cond x17.1
(A.letT [.x .poly] (x15.2.2.2.1,()) fun x18=>
(A.letT [.b] ((A.bl true),()) fun x19=>
(A.ret [.x .poly,.b] (x18.1,x19.1,()))))
(A.letT [.b] ((A.bl false),()) fun x18=>
(A.ret [.x .poly,.b] ((A.mkX .poly ((A.nilL .mono),())),x18.1,())))))))))))))))))))))))))))))))))
def F_k51 (A:Alg) (x:Tup A.toCar [.l .atom]):A.M (Tup A.toCar [.l .atom]):=
(A.chk (A.cmp .leq (A.lit 0) (A.lit 0))
(A.chk (A.cmp .leq (A.lit 0) (A.len .atom x.1))
(A.chk (A.cmp .leq (A.len .atom x.1) (A.len .atom x.1))
(A.chk (A.cmp .eql (A.len .atom x.1) (A.len .atom x.1))
(A.ret [.l .atom] ((A.sub .atom x.1 (A.lit 0) (A.len .atom x.1)),()))))))
def F_k24 (A:Alg) (p_k16:Tup A.toCar [.x .atom,.i]→A.B) (f_k16:Tup A.toCar [.x .atom,.i]→Tup A.toCar [.b]) (p_k22:Tup A.toCar [.x .tab,.x .atom]→A.B) (f_k22:Tup A.toCar [.x .tab,.x .atom]→Tup A.toCar [.i]) (p_k51:Tup A.toCar [.l .atom]→A.B) (f_k51:Tup A.toCar [.l .atom]→Tup A.toCar [.l .atom]) (x:Tup A.toCar [.x .tab,.x .atom]):A.M (Tup A.toCar [.x .tab,.i]):=
(A.letT [.i] ((A.lit 0),()) fun x0=>
(A.chk (p_k22 (x.1,x.2.1,()))
(A.letT [.i] ((f_k22 (x.1,x.2.1,())).1,()) fun x1=>
(A.letT [.i] (x1.1,()) fun x2=>
(A.cond (A.cmp .geq x2.1 (A.lit 0))
(A.letT [.x .tab] (x.1,()) fun x3=>
(A.letT [.i] (x2.1,()) fun x4=>
(A.ret [.x .tab,.i] (x3.1,x4.1,()))))
(A.chk (p_k16 (x.2.1,(A.len .atom (A.fL .tab 0 .atom x.1)),()))
(A.letT [.b] ((f_k16 (x.2.1,(A.len .atom (A.fL .tab 0 .atom x.1)),())).1,()) fun x3=>
(A.cond (A.iteB (A.notB x3.1) (A.bl true) (A.cmp .eql (A.len .atom (A.fL .tab 0 .atom x.1)) (A.lit 200)))
(A.letT [.x .tab] (x.1,()) fun x4=>
(A.letT [.i] ((A.lit (-1)),()) fun x5=>
(A.ret [.x .tab,.i] (x4.1,x5.1,()))))
(A.chk (p_k51 ((A.fL .tab 0 .atom x.1),()))
(A.letT [.l .atom] ((f_k51 ((A.fL .tab 0 .atom x.1),())).1,()) fun x4=>
(A.chk (A.orB (A.cmp .lss (A.lit 0) (A.len .atom (A.lst .atom [x.2.1]))) (A.cmp .eql (A.len .atom x4.1) (A.lit 0)))
(A.chk (A.cmp .leq (A.addN (A.len .atom x4.1) (A.len .atom (A.lst .atom [x.2.1]))) (A.lit 1073741824))
(A.letT [.l .atom] ((A.app .atom x4.1 (A.lst .atom [x.2.1])),()) fun x5=>
(A.letT [.i] ((A.len .atom (A.fL .tab 0 .atom x.1)),()) fun x6=>
(A.ret [.x .tab,.i] ((A.mkX .tab (x5.1,())),x6.1,()))))))))))))))))
def F_k5 (A:Alg) (p_k34:Tup A.toCar [.i,.i,.i]→A.B) (f_k34:Tup A.toCar [.i,.i,.i]→Tup A.toCar [.b]) (x:Tup A.toCar [.i]):A.M (Tup A.toCar [.l .mono]):=
(A.chk (p_k34 (x.1,(A.lit 0),(A.lit 199),()))
(A.letT [.b] ((f_k34 (x.1,(A.lit 0),(A.lit 199),())).1,()) fun x0=>
(A.cond (A.notB x0.1)
(A.ret [.l .mono] ((A.nilL .mono),()))
(A.letT [.l .i64] ((A.lst .i64 [(A.mkX .i64 (x.1,()))]),()) fun x1=>
(A.letT [.l .mono] ((A.lst .mono [(A.mkX .mono ((A.lit 1),x1.1,()))]),()) fun x2=>
(A.ret [.l .mono] (x2.1,())))))))
def F_k21 (A:Alg) (p_k12:Tup A.toCar [.x .poly,.x .poly]→A.B) (f_k12:Tup A.toCar [.x .poly,.x .poly]→Tup A.toCar [.i]) (p_k37:Tup A.toCar [.i,.x .poly,.x .poly]→A.B) (f_k37:Tup A.toCar [.i,.x .poly,.x .poly]→Tup A.toCar [.x .poly,.b]) (p_k24:Tup A.toCar [.x .tab,.x .atom]→A.B) (f_k24:Tup A.toCar [.x .tab,.x .atom]→Tup A.toCar [.x .tab,.i]) (p_k5:Tup A.toCar [.i]→A.B) (f_k5:Tup A.toCar [.i]→Tup A.toCar [.l .mono]) (x:Tup A.toCar [.x .tab,.i,.x .poly,.x .poly]):A.M (Tup A.toCar [.x .tab,.x .poly,.b]):=
(A.letT [.b] ((A.bl false),()) fun x0=>
(A.chk (p_k37 (x.2.1,x.2.2.1,x.2.2.2.1,()))
(A.letT [.x .poly,.b] ((f_k37 (x.2.1,x.2.2.1,x.2.2.2.1,())).1,(f_k37 (x.2.1,x.2.2.1,x.2.2.2.1,())).2.1,()) fun x1=>
(A.letT [.x .poly] (x1.1,()) fun x2=>
(A.letT [.b] (x1.2.1,()) fun x3=>
(A.cond x3.1
(A.letT [.x .tab] (x.1,()) fun x4=>
(A.letT [.x .poly] (x2.1,()) fun x5=>
(A.letT [.b] ((A.bl true),()) fun x6=>
(A.ret [.x .tab,.x .poly,.b] (x4.1,x5.1,x6.1,())))))
(A.chk (A.orB (A.notB (A.cmp .neq x.2.1 (A.lit 2))) (p_k12 (x.2.2.1,x.2.2.2.1,())))
(A.letT [.i] ((f_k12 (x.2.2.1,x.2.2.2.1,())).1,()) fun x4=>
(A.bind [.i,.x .tab,.x .poly,.x .poly]
(A.cond (A.iteB (A.cmp .neq x.2.1 (A.lit 2)) (A.cmp .gtr x4.1 (A.lit 0)) (A.bl false))
(A.letT [.x .poly] (x.2.2.2.1,()) fun x5=>
(A.letT [.x .poly] (x.2.2.1,()) fun x6=>
(A.ret [.i,.x .tab,.x .poly,.x .poly] (x.2.1,x.1,x5.1,x6.1,()))))
(A.ret [.i,.x .tab,.x .poly,.x .poly] (x.2.1,x.1,x.2.2.1,x.2.2.2.1,())))
fun x5=>
(A.chk (p_k24 (x5.2.1,(A.mkX .atom ((A.lit 4),x5.1,(A.fL .poly 0 .mono x5.2.2.1),(A.fL .poly 0 .mono x5.2.2.2.1),())),()))
(A.letT [.x .tab,.i] ((f_k24 (x5.2.1,(A.mkX .atom ((A.lit 4),x5.1,(A.fL .poly 0 .mono x5.2.2.1),(A.fL .poly 0 .mono x5.2.2.2.1),())),())).1,(f_k24 (x5.2.1,(A.mkX .atom ((A.lit 4),x5.1,(A.fL .poly 0 .mono x5.2.2.1),(A.fL .poly 0 .mono x5.2.2.2.1),())),())).2.1,()) fun x6=>
(A.letT [.x .tab] (x6.1,()) fun x7=>
(A.letT [.i] (x6.2.1,()) fun x8=>
(A.cond (A.cmp .lss x8.1 (A.lit 0))
(A.letT [.b] ((A.bl false),()) fun x9=>
(A.ret [.x .tab,.x .poly,.b] ((A.mkX .tab ((A.nilL .atom),())),(A.mkX .poly ((A.nilL .mono),())),x9.1,())))
(A.chk (p_k5 (x8.1,()))
(A.letT [.l .mono] ((f_k5 (x8.1,())).1,()) fun x9=>
(A.letT [.x .tab] (x7.1,()) fun x10=>
(A.letT [.b] ((A.bl true),()) fun x11=>
(A.ret [.x .tab,.x .poly,.b] (x10.1,(A.mkX .poly (x9.1,())),x11.1,()))))))))))))))))))))
def F_k26 (A:Alg) (p_k33:Tup A.toCar [.l .i64]→A.B) (f_k33:Tup A.toCar [.l .i64]→Tup A.toCar [.l .i64]) (x:Tup A.toCar [.x .poly]):A.M (Tup A.toCar [.l .mono]):=
(A.iter [.l .mono,.i,.i,.l .mono] (fun x0=>
(A.cond (A.cmp .lss x0.2.2.1 x0.2.1)
(A.chk (A.cmp .leq (A.lit 0) x0.2.2.1)
(A.chk (A.cmp .lss x0.2.2.1 (A.len .mono x0.1))
(A.letT [.x .mono] ((A.get .mono x0.1 x0.2.2.1),()) fun x1=>
(A.chk (p_k33 ((A.fL .mono 1 .i64 x1.1),()))
(A.letT [.l .i64] ((f_k33 ((A.fL .mono 1 .i64 x1.1),())).1,()) fun x2=>
(A.letT [.l .mono] ((A.lst .mono [(A.mkX .mono ((A.fI .mono 0 x1.1),x2.1,()))]),()) fun x3=>
(A.chk (A.cmp .leq (A.addN (A.len .mono x0.2.2.2.1) (A.len .mono x3.1)) (A.lit 1073741824))
(A.letT [.l .mono] ((A.app .mono x0.2.2.2.1 x3.1),()) fun x4=>
(A.inl [.l .mono,.i,.i,.l .mono] (x0.1,x0.2.1,(A.arith .add .i64 x0.2.2.1 (A.lit 1)),x4.1,()))))))))))
(A.inr [.l .mono,.i,.i,.l .mono] (A.ret [.l .mono] (x0.2.2.2.1,()))))) ((A.fL .poly 0 .mono x.1),(A.len .mono (A.fL .poly 0 .mono x.1)),(A.lit 0),(A.nilL .mono),()))
def F_k20 (A:Alg) (p_k26:Tup A.toCar [.x .poly]→A.B) (f_k26:Tup A.toCar [.x .poly]→Tup A.toCar [.l .mono]) (x:Tup A.toCar [.x .tab]):A.M (Tup A.toCar [.l .atom]):=
(A.iter [.l .atom,.i,.i,.l .atom] (fun x0=>
(A.cond (A.cmp .lss x0.2.2.1 x0.2.1)
(A.chk (A.cmp .leq (A.lit 0) x0.2.2.1)
(A.chk (A.cmp .lss x0.2.2.1 (A.len .atom x0.1))
(A.letT [.x .atom] ((A.get .atom x0.1 x0.2.2.1),()) fun x1=>
(A.chk (p_k26 ((A.mkX .poly ((A.fL .atom 2 .mono x1.1),())),()))
(A.letT [.l .mono] ((f_k26 ((A.mkX .poly ((A.fL .atom 2 .mono x1.1),())),())).1,()) fun x2=>
(A.chk (p_k26 ((A.mkX .poly ((A.fL .atom 3 .mono x1.1),())),()))
(A.letT [.l .mono] ((f_k26 ((A.mkX .poly ((A.fL .atom 3 .mono x1.1),())),())).1,()) fun x3=>
(A.letT [.l .atom] ((A.lst .atom [(A.mkX .atom ((A.fI .atom 0 x1.1),(A.fI .atom 1 x1.1),x2.1,x3.1,()))]),()) fun x4=>
(A.chk (A.cmp .leq (A.addN (A.len .atom x0.2.2.2.1) (A.len .atom x4.1)) (A.lit 1073741824))
(A.letT [.l .atom] ((A.app .atom x0.2.2.2.1 x4.1),()) fun x5=>
(A.inl [.l .atom,.i,.i,.l .atom] (x0.1,x0.2.1,(A.arith .add .i64 x0.2.2.1 (A.lit 1)),x5.1,()))))))))))))
(A.inr [.l .atom,.i,.i,.l .atom] (A.ret [.l .atom] (x0.2.2.2.1,()))))) ((A.fL .tab 0 .atom x.1),(A.len .atom (A.fL .tab 0 .atom x.1)),(A.lit 0),(A.nilL .atom),()))
def F_k18 (A:Alg) (p_k35:Tup A.toCar [.i]→A.B) (f_k35:Tup A.toCar [.i]→Tup A.toCar [.b]) (p_k14:Tup A.toCar [.x .poly,.i]→A.B) (f_k14:Tup A.toCar [.x .poly,.i]→Tup A.toCar [.b]) (p_k10:Tup A.toCar [.x .poly]→A.B) (f_k10:Tup A.toCar [.x .poly]→Tup A.toCar [.b]) (p_k19:Tup A.toCar [.x .tab]→A.B) (f_k19:Tup A.toCar [.x .tab]→Tup A.toCar [.b]) (p_k21:Tup A.toCar [.x .tab,.i,.x .poly,.x .poly]→A.B) (f_k21:Tup A.toCar [.x .tab,.i,.x .poly,.x .poly]→Tup A.toCar [.x .tab,.x .poly,.b]) (p_k26:Tup A.toCar [.x .poly]→A.B) (f_k26:Tup A.toCar [.x .poly]→Tup A.toCar [.l .mono]) (p_k20:Tup A.toCar [.x .tab]→A.B) (f_k20:Tup A.toCar [.x .tab]→Tup A.toCar [.l .atom]) (x:Tup A.toCar [.x .tab,.i,.x .poly,.x .poly]):A.M (Tup A.toCar [.l .atom,.l .mono]):=
(A.chk (p_k19 (x.1,()))
(A.letT [.b] ((f_k19 (x.1,())).1,()) fun x0=>
(A.chk (A.orB (A.notB (A.notB (A.notB x0.1))) (p_k35 (x.2.1,())))
(A.letT [.b] ((f_k35 (x.2.1,())).1,()) fun x1=>
(A.chk (A.orB (A.notB (A.notB (A.iteB (A.notB x0.1) (A.bl true) (A.notB x1.1)))) (p_k10 (x.2.2.1,())))
(A.letT [.b] ((f_k10 (x.2.2.1,())).1,()) fun x2=>
(A.chk (A.orB (A.notB (A.notB (A.iteB (A.iteB (A.notB x0.1) (A.bl true) (A.notB x1.1)) (A.bl true) (A.notB x2.1)))) (p_k10 (x.2.2.2.1,())))
(A.letT [.b] ((f_k10 (x.2.2.2.1,())).1,()) fun x3=>
(A.chk (A.orB (A.notB (A.notB (A.iteB (A.iteB (A.iteB (A.notB x0.1) (A.bl true) (A.notB x1.1)) (A.bl true) (A.notB x2.1)) (A.bl true) (A.notB x3.1)))) (p_k14 (x.2.2.1,(A.len .atom (A.fL .tab 0 .atom x.1)),())))
(A.letT [.b] ((f_k14 (x.2.2.1,(A.len .atom (A.fL .tab 0 .atom x.1)),())).1,()) fun x4=>
(A.chk (A.orB (A.notB (A.notB (A.iteB (A.iteB (A.iteB (A.iteB (A.notB x0.1) (A.bl true) (A.notB x1.1)) (A.bl true) (A.notB x2.1)) (A.bl true) (A.notB x3.1)) (A.bl true) (A.notB x4.1)))) (p_k14 (x.2.2.2.1,(A.len .atom (A.fL .tab 0 .atom x.1)),())))
(A.letT [.b] ((f_k14 (x.2.2.2.1,(A.len .atom (A.fL .tab 0 .atom x.1)),())).1,()) fun x5=>
(A.cond (A.iteB (A.iteB (A.iteB (A.iteB (A.iteB (A.notB x0.1) (A.bl true) (A.notB x1.1)) (A.bl true) (A.notB x2.1)) (A.bl true) (A.notB x3.1)) (A.bl true) (A.notB x4.1)) (A.bl true) (A.notB x5.1))
(A.ret [.l .atom,.l .mono] ((A.nilL .atom),(A.nilL .mono),()))
(A.chk (p_k21 (x.1,x.2.1,x.2.2.1,x.2.2.2.1,()))
(A.letT [.x .tab,.x .poly,.b] ((f_k21 (x.1,x.2.1,x.2.2.1,x.2.2.2.1,())).1,(f_k21 (x.1,x.2.1,x.2.2.1,x.2.2.2.1,())).2.1,(f_k21 (x.1,x.2.1,x.2.2.1,x.2.2.2.1,())).2.2.1,()) fun x6=>
(A.letT [.x .tab] (x6.1,()) fun x7=>
(A.letT [.x .poly] (x6.2.1,()) fun x8=>
(A.letT [.b] (x6.2.2.1,()) fun x9=>
(A.chk (p_k20 (x7.1,()))
(A.letT [.l .atom] ((f_k20 (x7.1,())).1,()) fun x10=>
(A.chk (p_k26 (x8.1,()))
(A.letT [.l .mono] ((f_k26 (x8.1,())).1,()) fun x11=>
(A.ret [.l .atom,.l .mono] (x10.1,x11.1,()))))))))))))))))))))))))
def F_k46 (A:Alg) (p_k30:Tup A.toCar [.i]→A.B) (f_k30:Tup A.toCar [.i]→Tup A.toCar [.b]) (x:Tup A.toCar []):A.M (Tup A.toCar [.b]):=
(A.letT [.b] ((A.bl false),()) fun x0=>
(A.chk (p_k30 ((A.lit 1),()))
(A.letT [.b] ((f_k30 ((A.lit 1),())).1,()) fun x1=>
(A.letT [.b] (x1.1,()) fun x2=>
(A.ret [.b] (x2.1,()))))))
def F_k45 (A:Alg) (x:Tup A.toCar [.l .i64,.l .i64]):A.M (Tup A.toCar [.b]):=
(A.letT [.b] ((A.bl false),()) fun x0=>
(A.cond (A.cmp .neq (A.len .i64 x.1) (A.len .i64 x.2.1))
(A.letT [.b] ((A.bl false),()) fun x1=>
(A.ret [.b] (x1.1,())))
(A.letT [.i] ((A.lit 0),()) fun x1=>
(A.iter [.l .i64,.l .i64,.i] (fun x2=>
(A.cond (A.cmp .lss x2.2.2.1 (A.len .i64 x2.1))
(A.chk (A.cmp .leq (A.lit 0) x2.2.2.1)
(A.chk (A.cmp .lss x2.2.2.1 (A.len .i64 x2.1))
(A.chk (A.cmp .leq (A.lit 0) x2.2.2.1)
(A.chk (A.cmp .lss x2.2.2.1 (A.len .i64 x2.2.1))
(A.cond (A.cmp .neq (A.fI .i64 0 (A.get .i64 x2.1 x2.2.2.1)) (A.fI .i64 0 (A.get .i64 x2.2.1 x2.2.2.1)))
(A.letT [.b] ((A.bl false),()) fun x3=>
(A.inr [.l .i64,.l .i64,.i] (A.ret [.b] (x3.1,()))))
(A.letT [.i] ((A.arith .add .i64 x2.2.2.1 (A.lit 1)),()) fun x3=>
(A.inl [.l .i64,.l .i64,.i] (x2.1,x2.2.1,x3.1,()))))))))
(A.inr [.l .i64,.l .i64,.i] (A.letT [.b] ((A.bl true),()) fun x3=>
(A.ret [.b] (x3.1,())))))) (x.1,x.2.1,x1.1,())))))
def F_k47 (A:Alg) (p_k45:Tup A.toCar [.l .i64,.l .i64]→A.B) (f_k45:Tup A.toCar [.l .i64,.l .i64]→Tup A.toCar [.b]) (x:Tup A.toCar [.x .poly,.x .poly]):A.M (Tup A.toCar [.b]):=
(A.letT [.b] ((A.bl false),()) fun x0=>
(A.cond (A.cmp .neq (A.len .mono (A.fL .poly 0 .mono x.1)) (A.len .mono (A.fL .poly 0 .mono x.2.1)))
(A.letT [.b] ((A.bl false),()) fun x1=>
(A.ret [.b] (x1.1,())))
(A.letT [.i] ((A.lit 0),()) fun x1=>
(A.iter [.i,.x .poly,.x .poly] (fun x2=>
(A.cond (A.cmp .lss x2.1 (A.len .mono (A.fL .poly 0 .mono x2.2.1)))
(A.chk (A.cmp .leq (A.lit 0) x2.1)
(A.chk (A.cmp .lss x2.1 (A.len .mono (A.fL .poly 0 .mono x2.2.1)))
(A.chk (A.cmp .leq (A.lit 0) x2.1)
(A.chk (A.cmp .lss x2.1 (A.len .mono (A.fL .poly 0 .mono x2.2.2.1)))
(A.chk (A.orB (A.notB (A.notB (A.cmp .neq (A.fI .mono 0 (A.get .mono (A.fL .poly 0 .mono x2.2.1) x2.1)) (A.fI .mono 0 (A.get .mono (A.fL .poly 0 .mono x2.2.2.1) x2.1))))) (A.cmp .leq (A.lit 0) x2.1))
(A.chk (A.orB (A.notB (A.notB (A.cmp .neq (A.fI .mono 0 (A.get .mono (A.fL .poly 0 .mono x2.2.1) x2.1)) (A.fI .mono 0 (A.get .mono (A.fL .poly 0 .mono x2.2.2.1) x2.1))))) (A.cmp .lss x2.1 (A.len .mono (A.fL .poly 0 .mono x2.2.1))))
(A.chk (A.orB (A.notB (A.notB (A.cmp .neq (A.fI .mono 0 (A.get .mono (A.fL .poly 0 .mono x2.2.1) x2.1)) (A.fI .mono 0 (A.get .mono (A.fL .poly 0 .mono x2.2.2.1) x2.1))))) (A.cmp .leq (A.lit 0) x2.1))
(A.chk (A.orB (A.notB (A.notB (A.cmp .neq (A.fI .mono 0 (A.get .mono (A.fL .poly 0 .mono x2.2.1) x2.1)) (A.fI .mono 0 (A.get .mono (A.fL .poly 0 .mono x2.2.2.1) x2.1))))) (A.cmp .lss x2.1 (A.len .mono (A.fL .poly 0 .mono x2.2.2.1))))
(A.chk (A.orB (A.notB (A.notB (A.cmp .neq (A.fI .mono 0 (A.get .mono (A.fL .poly 0 .mono x2.2.1) x2.1)) (A.fI .mono 0 (A.get .mono (A.fL .poly 0 .mono x2.2.2.1) x2.1))))) (p_k45 ((A.fL .mono 1 .i64 (A.get .mono (A.fL .poly 0 .mono x2.2.1) x2.1)),(A.fL .mono 1 .i64 (A.get .mono (A.fL .poly 0 .mono x2.2.2.1) x2.1)),())))
(A.letT [.b] ((f_k45 ((A.fL .mono 1 .i64 (A.get .mono (A.fL .poly 0 .mono x2.2.1) x2.1)),(A.fL .mono 1 .i64 (A.get .mono (A.fL .poly 0 .mono x2.2.2.1) x2.1)),())).1,()) fun x3=>
(A.cond (A.iteB (A.cmp .neq (A.fI .mono 0 (A.get .mono (A.fL .poly 0 .mono x2.2.1) x2.1)) (A.fI .mono 0 (A.get .mono (A.fL .poly 0 .mono x2.2.2.1) x2.1))) (A.bl true) (A.notB x3.1))
(A.letT [.b] ((A.bl false),()) fun x4=>
(A.inr [.i,.x .poly,.x .poly] (A.ret [.b] (x4.1,()))))
(A.letT [.i] ((A.arith .add .i64 x2.1 (A.lit 1)),()) fun x4=>
(A.inl [.i,.x .poly,.x .poly] (x4.1,x2.2.1,x2.2.2.1,()))))))))))))))
(A.inr [.i,.x .poly,.x .poly] (A.letT [.b] ((A.bl true),()) fun x3=>
(A.ret [.b] (x3.1,())))))) (x1.1,x.1,x.2.1,())))))
def F_k48 (A:Alg) (p_k47:Tup A.toCar [.x .poly,.x .poly]→A.B) (f_k47:Tup A.toCar [.x .poly,.x .poly]→Tup A.toCar [.b]) (x:Tup A.toCar [.x .tab,.x .tab]):A.M (Tup A.toCar [.b]):=
(A.letT [.b] ((A.bl false),()) fun x0=>
(A.cond (A.cmp .neq (A.len .atom (A.fL .tab 0 .atom x.1)) (A.len .atom (A.fL .tab 0 .atom x.2.1)))
(A.letT [.b] ((A.bl false),()) fun x1=>
(A.ret [.b] (x1.1,())))
(A.letT [.i] ((A.lit 0),()) fun x1=>
(A.iter [.i,.x .tab,.x .tab] (fun x2=>
(A.cond (A.cmp .lss x2.1 (A.len .atom (A.fL .tab 0 .atom x2.2.1)))
(A.chk (A.cmp .leq (A.lit 0) x2.1)
(A.chk (A.cmp .lss x2.1 (A.len .atom (A.fL .tab 0 .atom x2.2.1)))
(A.letT [.x .atom] ((A.get .atom (A.fL .tab 0 .atom x2.2.1) x2.1),()) fun x3=>
(A.chk (A.cmp .leq (A.lit 0) x2.1)
(A.chk (A.cmp .lss x2.1 (A.len .atom (A.fL .tab 0 .atom x2.2.2.1)))
(A.letT [.x .atom] ((A.get .atom (A.fL .tab 0 .atom x2.2.2.1) x2.1),()) fun x4=>
(A.chk (A.orB (A.notB (A.notB (A.iteB (A.cmp .neq (A.fI .atom 0 x3.1) (A.fI .atom 0 x4.1)) (A.bl true) (A.cmp .neq (A.fI .atom 1 x3.1) (A.fI .atom 1 x4.1))))) (p_k47 ((A.mkX .poly ((A.fL .atom 2 .mono x3.1),())),(A.mkX .poly ((A.fL .atom 2 .mono x4.1),())),())))
(A.letT [.b] ((f_k47 ((A.mkX .poly ((A.fL .atom 2 .mono x3.1),())),(A.mkX .poly ((A.fL .atom 2 .mono x4.1),())),())).1,()) fun x5=>
(A.chk (A.orB (A.notB (A.notB (A.iteB (A.iteB (A.cmp .neq (A.fI .atom 0 x3.1) (A.fI .atom 0 x4.1)) (A.bl true) (A.cmp .neq (A.fI .atom 1 x3.1) (A.fI .atom 1 x4.1))) (A.bl true) (A.notB x5.1)))) (p_k47 ((A.mkX .poly ((A.fL .atom 3 .mono x3.1),())),(A.mkX .poly ((A.fL .atom 3 .mono x4.1),())),())))
(A.letT [.b] ((f_k47 ((A.mkX .poly ((A.fL .atom 3 .mono x3.1),())),(A.mkX .poly ((A.fL .atom 3 .mono x4.1),())),())).1,()) fun x6=>
(A.cond (A.iteB (A.iteB (A.iteB (A.cmp .neq (A.fI .atom 0 x3.1) (A.fI .atom 0 x4.1)) (A.bl true) (A.cmp .neq (A.fI .atom 1 x3.1) (A.fI .atom 1 x4.1))) (A.bl true) (A.notB x5.1)) (A.bl true) (A.notB x6.1))
(A.letT [.b] ((A.bl false),()) fun x7=>
(A.inr [.i,.x .tab,.x .tab] (A.ret [.b] (x7.1,()))))
(A.letT [.i] ((A.arith .add .i64 x2.1 (A.lit 1)),()) fun x7=>
(A.inl [.i,.x .tab,.x .tab] (x7.1,x2.2.1,x2.2.2.1,()))))))))))))))
(A.inr [.i,.x .tab,.x .tab] (A.letT [.b] ((A.bl true),()) fun x3=>
(A.ret [.b] (x3.1,())))))) (x1.1,x.1,x.2.1,())))))
def F_k104 (A:Alg) (p_k102:Tup A.toCar [.l .u8,.i]→A.B) (f_k102:Tup A.toCar [.l .u8,.i]→Tup A.toCar [.i,.l .u8,.i]) (x:Tup A.toCar [.i,.l .u8,.i]):A.M (Tup A.toCar [.l .u8,.i,.l .i64]):=
(A.letT [.l .i64] ((A.lst .i64 []),()) fun x0=>
(A.letT [.i] ((A.lit 0),()) fun x1=>
(A.iter [.i,.i,.l .u8,.i,.l .i64] (fun x2=>
(A.cond (A.cmp .lss x2.2.1 x2.1)
(A.chk (p_k102 (x2.2.2.1,x2.2.2.2.1,()))
(A.letT [.i,.l .u8,.i] ((f_k102 (x2.2.2.1,x2.2.2.2.1,())).1,(f_k102 (x2.2.2.1,x2.2.2.2.1,())).2.1,(f_k102 (x2.2.2.1,x2.2.2.2.1,())).2.2.1,()) fun x3=>
(A.letT [.l .i64] ((A.lst .i64 [(A.mkX .i64 (x3.1,()))]),()) fun x4=>
(A.chk (A.cmp .leq (A.addN (A.len .i64 x2.2.2.2.2.1) (A.len .i64 x4.1)) (A.lit 1073741824))
(A.letT [.l .i64] ((A.app .i64 x2.2.2.2.2.1 x4.1),()) fun x5=>
(A.letT [.i] ((A.arith .add .i64 x2.2.1 (A.lit 1)),()) fun x6=>
(A.inl [.i,.i,.l .u8,.i,.l .i64] (x2.1,x6.1,x3.2.1,x3.2.2.1,x5.1,()))))))))
(A.inr [.i,.i,.l .u8,.i,.l .i64] (A.ret [.l .u8,.i,.l .i64] (x2.2.2.1,x2.2.2.2.1,x2.2.2.2.2.1,()))))) (x.1,x1.1,x.2.1,x.2.2.1,x0.1,()))))
def F_k80 (A:Alg) (p_k99:Tup A.toCar [.l .u8]→A.B) (f_k99:Tup A.toCar [.l .u8]→Tup A.toCar [.l .u8,.i]) (p_k101:Tup A.toCar [.i,.l .u8,.i]→A.B) (f_k101:Tup A.toCar [.i,.l .u8,.i]→Tup A.toCar [.i,.l .u8,.i]) (p_k100:Tup A.toCar [.i,.l .u8,.i]→A.B) (f_k100:Tup A.toCar [.i,.l .u8,.i]→Tup A.toCar [.b,.l .u8,.i]) (p_k107:Tup A.toCar [.i,.l .u8,.i]→A.B) (f_k107:Tup A.toCar [.i,.l .u8,.i]→Tup A.toCar [.l .u8,.i,.l .atom]) (p_k104:Tup A.toCar [.i,.l .u8,.i]→A.B) (f_k104:Tup A.toCar [.i,.l .u8,.i]→Tup A.toCar [.l .u8,.i,.l .i64]) (x:Tup A.toCar [.l .u8]):A.M (Tup A.toCar [.l .atom,.l .i64,.l .i64,.l .i64]):=
(A.chk (p_k99 (x.1,()))
(A.letT [.l .u8,.i] ((f_k99 (x.1,())).1,(f_k99 (x.1,())).2.1,()) fun x0=>
(A.chk (p_k107 ((A.lit 12),x0.1,x0.2.1,()))
(A.letT [.l .u8,.i,.l .atom] ((f_k107 ((A.lit 12),x0.1,x0.2.1,())).1,(f_k107 ((A.lit 12),x0.1,x0.2.1,())).2.1,(f_k107 ((A.lit 12),x0.1,x0.2.1,())).2.2.1,()) fun x1=>
(A.chk (p_k101 ((A.lit 2),x1.1,x1.2.1,()))
(A.letT [.i,.l .u8,.i] ((f_k101 ((A.lit 2),x1.1,x1.2.1,())).1,(f_k101 ((A.lit 2),x1.1,x1.2.1,())).2.1,(f_k101 ((A.lit 2),x1.1,x1.2.1,())).2.2.1,()) fun x2=>
(A.chk (p_k104 ((A.arith .add .i64 (A.lit 3) x2.1),x2.2.1,x2.2.2.1,()))
(A.letT [.l .u8,.i,.l .i64] ((f_k104 ((A.arith .add .i64 (A.lit 3) x2.1),x2.2.1,x2.2.2.1,())).1,(f_k104 ((A.arith .add .i64 (A.lit 3) x2.1),x2.2.1,x2.2.2.1,())).2.1,(f_k104 ((A.arith .add .i64 (A.lit 3) x2.1),x2.2.1,x2.2.2.1,())).2.2.1,()) fun x3=>
(A.chk (p_k100 ((A.lit 12),x3.1,x3.2.1,()))
(A.letT [.b,.l .u8,.i] ((f_k100 ((A.lit 12),x3.1,x3.2.1,())).1,(f_k100 ((A.lit 12),x3.1,x3.2.1,())).2.1,(f_k100 ((A.lit 12),x3.1,x3.2.1,())).2.2.1,()) fun x4=>
(A.bind [.l .u8,.i,.l .i64,.l .atom]
(A.cond x4.1
(A.letT [.l .i64] ((A.lst .i64 [(A.mkX .i64 ((A.lit 65536),()))]),()) fun x5=>
(A.chk (A.cmp .leq (A.addN (A.len .i64 x3.2.2.1) (A.len .i64 x5.1)) (A.lit 1073741824))
(A.letT [.l .i64] ((A.app .i64 x3.2.2.1 x5.1),()) fun x6=>
(A.ret [.l .u8,.i,.l .i64,.l .atom] (x4.2.1,x4.2.2.1,x6.1,x1.2.2.1,())))))
(A.ret [.l .u8,.i,.l .i64,.l .atom] (x4.2.1,x4.2.2.1,x3.2.2.1,x1.2.2.1,())))
fun x5=>
(A.chk (p_k101 ((A.lit 4),x5.1,x5.2.1,()))
(A.letT [.i,.l .u8,.i] ((f_k101 ((A.lit 4),x5.1,x5.2.1,())).1,(f_k101 ((A.lit 4),x5.1,x5.2.1,())).2.1,(f_k101 ((A.lit 4),x5.1,x5.2.1,())).2.2.1,()) fun x6=>
(A.chk (p_k104 (x6.1,x6.2.1,x6.2.2.1,()))
(A.letT [.l .u8,.i,.l .i64] ((f_k104 (x6.1,x6.2.1,x6.2.2.1,())).1,(f_k104 (x6.1,x6.2.1,x6.2.2.1,())).2.1,(f_k104 (x6.1,x6.2.1,x6.2.2.1,())).2.2.1,()) fun x7=>
(A.chk (p_k101 ((A.lit 4),x7.1,x7.2.1,()))
(A.letT [.i,.l .u8,.i] ((f_k101 ((A.lit 4),x7.1,x7.2.1,())).1,(f_k101 ((A.lit 4),x7.1,x7.2.1,())).2.1,(f_k101 ((A.lit 4),x7.1,x7.2.1,())).2.2.1,()) fun x8=>
(A.chk (p_k104 (x8.1,x8.2.1,x8.2.2.1,()))
(A.letT [.l .u8,.i,.l .i64] ((f_k104 (x8.1,x8.2.1,x8.2.2.1,())).1,(f_k104 (x8.1,x8.2.1,x8.2.2.1,())).2.1,(f_k104 (x8.1,x8.2.1,x8.2.2.1,())).2.2.1,()) fun x9=>
(A.ret [.l .atom,.l .i64,.l .i64,.l .i64] (x5.2.2.2.1,x5.2.2.1,x7.2.2.1,x9.2.2.1,())))))))))))))))))))))
def F_k41 (A:Alg) (p_k30:Tup A.toCar [.i]→A.B) (f_k30:Tup A.toCar [.i]→Tup A.toCar [.b]) (x:Tup A.toCar [.l .i64]):A.M (Tup A.toCar [.b]):=
(A.letT [.b] ((A.bl false),()) fun x0=>
(A.iter [.l .i64,.i,.i] (fun x1=>
(A.cond (A.cmp .lss x1.2.2.1 x1.2.1)
(A.chk (A.cmp .leq (A.lit 0) x1.2.2.1)
(A.chk (A.cmp .lss x1.2.2.1 (A.len .i64 x1.1))
(A.letT [.i] ((A.fI .i64 0 (A.get .i64 x1.1 x1.2.2.1)),()) fun x2=>
(A.chk (p_k30 (x2.1,()))
(A.letT [.b] ((f_k30 (x2.1,())).1,()) fun x3=>
(A.cond (A.notB x3.1)
(A.letT [.b] ((A.bl false),()) fun x4=>
(A.inr [.l .i64,.i,.i] (A.ret [.b] (x4.1,()))))
(A.inl [.l .i64,.i,.i] (x1.1,x1.2.1,(A.arith .add .i64 x1.2.2.1 (A.lit 1)),()))))))))
(A.inr [.l .i64,.i,.i] (A.letT [.b] ((A.bl true),()) fun x2=>
(A.ret [.b] (x2.1,())))))) (x.1,(A.len .i64 x.1),(A.lit 0),())))
def F_k40 (A:Alg) (x:Tup A.toCar [.l .i64,.i]):A.M (Tup A.toCar [.i]):=
(A.letT [.i] ((A.lit 0),()) fun x0=>
(A.cond (A.cmp .geq x.2.1 (A.len .i64 x.1))
(A.letT [.i] ((A.lit 0),()) fun x1=>
(A.ret [.i] (x1.1,())))
(A.chk (A.cmp .leq (A.lit 0) x.2.1)
(A.chk (A.cmp .lss x.2.1 (A.len .i64 x.1))
(A.letT [.i] ((A.fI .i64 0 (A.get .i64 x.1 x.2.1)),()) fun x1=>
(A.ret [.i] (x1.1,())))))))
def F_k27 (A:Alg) (p_k31:Tup A.toCar [.i]→A.B) (f_k31:Tup A.toCar [.i]→Tup A.toCar [.i]) (x:Tup A.toCar [.x .poly,.l .i64]):A.M (Tup A.toCar [.i]):=
(A.letT [.i] ((A.lit 0),()) fun x0=>
(A.letT [.i] ((A.lit 0),()) fun x1=>
(A.iter [.l .i64,.i,.l .mono,.i,.i] (fun x2=>
(A.cond (A.cmp .lss x2.2.2.2.2.1 x2.2.2.2.1)
(A.chk (A.cmp .leq (A.lit 0) x2.2.2.2.2.1)
(A.chk (A.cmp .lss x2.2.2.2.2.1 (A.len .mono x2.2.2.1))
(A.letT [.x .mono] ((A.get .mono x2.2.2.1 x2.2.2.2.2.1),()) fun x3=>
(A.letT [.i] ((A.fI .mono 0 x3.1),()) fun x4=>
(A.iter [.l .i64,.i,.i,.l .mono,.i,.i,.l .i64,.i,.i] (fun x5=>
(A.cond (A.cmp .lss x5.2.2.2.2.2.2.2.2.1 x5.2.2.2.2.2.2.2.1)
(A.chk (A.cmp .leq (A.lit 0) x5.2.2.2.2.2.2.2.2.1)
(A.chk (A.cmp .lss x5.2.2.2.2.2.2.2.2.1 (A.len .i64 x5.2.2.2.2.2.2.1))
(A.letT [.i] ((A.fI .i64 0 (A.get .i64 x5.2.2.2.2.2.2.1 x5.2.2.2.2.2.2.2.2.1)),()) fun x6=>
(A.letT [.i] ((A.lit 0),()) fun x7=>
(A.bind [.l .i64,.i,.i,.i,.l .mono,.i,.i,.l .i64,.i,.i]
(A.cond (A.cmp .lss x6.1 (A.len .i64 x5.1))
(A.chk (A.cmp .leq (A.lit 0) x6.1)
(A.chk (A.cmp .lss x6.1 (A.len .i64 x5.1))
(A.letT [.i] ((A.fI .i64 0 (A.get .i64 x5.1 x6.1)),()) fun x8=>
(A.ret [.l .i64,.i,.i,.i,.l .mono,.i,.i,.l .i64,.i,.i] (x5.1,x5.2.1,x5.2.2.1,x8.1,x5.2.2.2.1,x5.2.2.2.2.1,x5.2.2.2.2.2.1,x5.2.2.2.2.2.2.1,x5.2.2.2.2.2.2.2.1,x5.2.2.2.2.2.2.2.2.1,())))))
(A.ret [.l .i64,.i,.i,.i,.l .mono,.i,.i,.l .i64,.i,.i] (x5.1,x5.2.1,x5.2.2.1,x7.1,x5.2.2.2.1,x5.2.2.2.2.1,x5.2.2.2.2.2.1,x5.2.2.2.2.2.2.1,x5.2.2.2.2.2.2.2.1,x5.2.2.2.2.2.2.2.2.1,())))
fun x8=>
(A.chk (p_k31 ((A.arith .mul .i64 x8.2.2.1 x8.2.2.2.1),()))
(A.letT [.i] ((f_k31 ((A.arith .mul .i64 x8.2.2.1 x8.2.2.2.1),())).1,()) fun x9=>
(A.letT [.i] (x9.1,()) fun x10=>
(A.inl [.l .i64,.i,.i,.l .mono,.i,.i,.l .i64,.i,.i] (x8.1,x8.2.1,x10.1,x8.2.2.2.2.1,x8.2.2.2.2.2.1,x8.2.2.2.2.2.2.1,x8.2.2.2.2.2.2.2.1,x8.2.2.2.2.2.2.2.2.1,(A.arith .add .i64 x8.2.2.2.2.2.2.2.2.2.1 (A.lit 1)),()))))))))))
(A.inr [.l .i64,.i,.i,.l .mono,.i,.i,.l .i64,.i,.i] (A.chk (p_k31 ((A.arith .add .i64 x5.2.1 x5.2.2.1),()))
(A.letT [.i] ((f_k31 ((A.arith .add .i64 x5.2.1 x5.2.2.1),())).1,()) fun x6=>
(A.letT [.i] (x6.1,()) fun x7=>
(A.inl [.l .i64,.i,.l .mono,.i,.i] (x5.1,x7.1,x5.2.2.2.1,x5.2.2.2.2.1,(A.arith .add .i64 x5.2.2.2.2.2.1 (A.lit 1)),())))))))) (x2.1,x2.2.1,x4.1,x2.2.2.1,x2.2.2.2.1,x2.2.2.2.2.1,(A.fL .mono 1 .i64 x3.1),(A.len .i64 (A.fL .mono 1 .i64 x3.1)),(A.lit 0),()))))))
(A.inr [.l .i64,.i,.l .mono,.i,.i] (A.letT [.i] (x2.2.1,()) fun x3=>
(A.ret [.i] (x3.1,())))))) (x.2.1,x1.1,(A.fL .poly 0 .mono x.1),(A.len .mono (A.fL .poly 0 .mono x.1)),(A.lit 0),()))))
def F_k25 (A:Alg) (p_k19:Tup A.toCar [.x .tab]→A.B) (f_k19:Tup A.toCar [.x .tab]→Tup A.toCar [.b]) (p_k29:Tup A.toCar [.i,.i,.i]→A.B) (f_k29:Tup A.toCar [.i,.i,.i]→Tup A.toCar [.i]) (p_k41:Tup A.toCar [.l .i64]→A.B) (f_k41:Tup A.toCar [.l .i64]→Tup A.toCar [.b]) (p_k40:Tup A.toCar [.l .i64,.i]→A.B) (f_k40:Tup A.toCar [.l .i64,.i]→Tup A.toCar [.i]) (p_k27:Tup A.toCar [.x .poly,.l .i64]→A.B) (f_k27:Tup A.toCar [.x .poly,.l .i64]→Tup A.toCar [.i]) (x:Tup A.toCar [.x .tab,.l .i64,.l .i64,.l .i64]):A.M (Tup A.toCar [.l .i64]):=
(A.chk (p_k19 (x.1,()))
(A.letT [.b] ((f_k19 (x.1,())).1,()) fun x0=>
(A.chk (A.orB (A.notB (A.notB (A.notB x0.1))) (p_k41 (x.2.1,())))
(A.letT [.b] ((f_k41 (x.2.1,())).1,()) fun x1=>
(A.chk (A.orB (A.notB (A.notB (A.iteB (A.notB x0.1) (A.bl true) (A.notB x1.1)))) (p_k41 (x.2.2.1,())))
(A.letT [.b] ((f_k41 (x.2.2.1,())).1,()) fun x2=>
(A.chk (A.orB (A.notB (A.notB (A.iteB (A.iteB (A.notB x0.1) (A.bl true) (A.notB x1.1)) (A.bl true) (A.notB x2.1)))) (p_k41 (x.2.2.2.1,())))
(A.letT [.b] ((f_k41 (x.2.2.2.1,())).1,()) fun x3=>
(A.cond (A.iteB (A.iteB (A.iteB (A.notB x0.1) (A.bl true) (A.notB x1.1)) (A.bl true) (A.notB x2.1)) (A.bl true) (A.notB x3.1))
(A.ret [.l .i64] ((A.nilL .i64),()))
(A.iter [.l .i64,.l .i64,.l .i64,.l .atom,.i,.i,.l .i64] (fun x4=>
(A.cond (A.cmp .lss x4.2.2.2.2.2.1 x4.2.2.2.2.1)
(A.chk (A.cmp .leq (A.lit 0) x4.2.2.2.2.2.1)
(A.chk (A.cmp .lss x4.2.2.2.2.2.1 (A.len .atom x4.2.2.2.1))
(A.letT [.x .atom] ((A.get .atom x4.2.2.2.1 x4.2.2.2.2.2.1),()) fun x5=>
(A.letT [.i] ((A.lit 0),()) fun x6=>
(A.letT [.b] ((A.cmp .eql (A.fI .atom 0 x5.1) (A.lit 1)),()) fun x7=>
(A.bind [.l .i64,.l .i64,.l .i64,.i,.l .atom,.i,.i,.l .i64]
(A.cond x7.1
(A.chk (p_k40 (x4.1,(A.fI .atom 1 x5.1),()))
(A.letT [.i] ((f_k40 (x4.1,(A.fI .atom 1 x5.1),())).1,()) fun x8=>
(A.letT [.i] (x8.1,()) fun x9=>
(A.ret [.l .i64,.l .i64,.l .i64,.i,.l .atom,.i,.i,.l .i64] (x4.1,x4.2.1,x4.2.2.1,x9.1,x4.2.2.2.1,x4.2.2.2.2.1,x4.2.2.2.2.2.1,x4.2.2.2.2.2.2.1,())))))
(A.letT [.b] ((A.cmp .eql (A.fI .atom 0 x5.1) (A.lit 2)),()) fun x8=>
(A.bind [.l .i64,.l .i64,.l .i64,.i,.l .atom,.i,.i,.l .i64]
(A.cond x8.1
(A.chk (p_k40 (x4.2.1,(A.fI .atom 1 x5.1),()))
(A.letT [.i] ((f_k40 (x4.2.1,(A.fI .atom 1 x5.1),())).1,()) fun x9=>
(A.letT [.i] (x9.1,()) fun x10=>
(A.ret [.l .i64,.l .i64,.l .i64,.i,.l .atom,.i,.i,.l .i64] (x4.1,x4.2.1,x4.2.2.1,x10.1,x4.2.2.2.1,x4.2.2.2.2.1,x4.2.2.2.2.2.1,x4.2.2.2.2.2.2.1,())))))
(A.letT [.b] ((A.cmp .eql (A.fI .atom 0 x5.1) (A.lit 3)),()) fun x9=>
(A.bind [.l .i64,.l .i64,.l .i64,.i,.l .atom,.i,.i,.l .i64]
(A.cond x9.1
(A.chk (p_k40 (x4.2.2.1,(A.fI .atom 1 x5.1),()))
(A.letT [.i] ((f_k40 (x4.2.2.1,(A.fI .atom 1 x5.1),())).1,()) fun x10=>
(A.letT [.i] (x10.1,()) fun x11=>
(A.ret [.l .i64,.l .i64,.l .i64,.i,.l .atom,.i,.i,.l .i64] (x4.1,x4.2.1,x4.2.2.1,x11.1,x4.2.2.2.1,x4.2.2.2.2.1,x4.2.2.2.2.2.1,x4.2.2.2.2.2.2.1,())))))
(A.chk (p_k27 ((A.mkX .poly ((A.fL .atom 2 .mono x5.1),())),x4.2.2.2.2.2.2.1,()))
(A.letT [.i] ((f_k27 ((A.mkX .poly ((A.fL .atom 2 .mono x5.1),())),x4.2.2.2.2.2.2.1,())).1,()) fun x10=>
(A.chk (p_k27 ((A.mkX .poly ((A.fL .atom 3 .mono x5.1),())),x4.2.2.2.2.2.2.1,()))
(A.letT [.i] ((f_k27 ((A.mkX .poly ((A.fL .atom 3 .mono x5.1),())),x4.2.2.2.2.2.2.1,())).1,()) fun x11=>
(A.chk (p_k29 ((A.fI .atom 1 x5.1),x10.1,x11.1,()))
(A.letT [.i] ((f_k29 ((A.fI .atom 1 x5.1),x10.1,x11.1,())).1,()) fun x12=>
(A.letT [.i] (x12.1,()) fun x13=>
(A.ret [.l .i64,.l .i64,.l .i64,.i,.l .atom,.i,.i,.l .i64] (x4.1,x4.2.1,x4.2.2.1,x13.1,x4.2.2.2.1,x4.2.2.2.2.1,x4.2.2.2.2.2.1,x4.2.2.2.2.2.2.1,()))))))))))
fun x10=>
(A.ret [.l .i64,.l .i64,.l .i64,.i,.l .atom,.i,.i,.l .i64] (x10.1,x10.2.1,x10.2.2.1,x10.2.2.2.1,x10.2.2.2.2.1,x10.2.2.2.2.2.1,x10.2.2.2.2.2.2.1,x10.2.2.2.2.2.2.2.1,())))))
fun x9=>
(A.ret [.l .i64,.l .i64,.l .i64,.i,.l .atom,.i,.i,.l .i64] (x9.1,x9.2.1,x9.2.2.1,x9.2.2.2.1,x9.2.2.2.2.1,x9.2.2.2.2.2.1,x9.2.2.2.2.2.2.1,x9.2.2.2.2.2.2.2.1,())))))
fun x8=>
(A.letT [.l .i64] ((A.lst .i64 [(A.mkX .i64 (x8.2.2.2.1,()))]),()) fun x9=>
(A.chk (A.cmp .leq (A.addN (A.len .i64 x8.2.2.2.2.2.2.2.1) (A.len .i64 x9.1)) (A.lit 1073741824))
(A.letT [.l .i64] ((A.app .i64 x8.2.2.2.2.2.2.2.1 x9.1),()) fun x10=>
(A.inl [.l .i64,.l .i64,.l .i64,.l .atom,.i,.i,.l .i64] (x8.1,x8.2.1,x8.2.2.1,x8.2.2.2.2.1,x8.2.2.2.2.2.1,(A.arith .add .i64 x8.2.2.2.2.2.2.1 (A.lit 1)),x10.1,())))))))))))
(A.inr [.l .i64,.l .i64,.l .i64,.l .atom,.i,.i,.l .i64] (A.ret [.l .i64] (x4.2.2.2.2.2.2.1,()))))) (x.2.1,x.2.2.1,x.2.2.2.1,(A.fL .tab 0 .atom x.1),(A.len .atom (A.fL .tab 0 .atom x.1)),(A.lit 0),(A.nilL .i64),())))))))))))
def F_k49 (A:Alg) (p_k97:Tup A.toCar [.i]→A.B) (f_k97:Tup A.toCar [.i]→Tup A.toCar [.i]) (x:Tup A.toCar [.l .i64]):A.M (Tup A.toCar [.l .i64]):=
(A.letT [.l .i64] ((A.lst .i64 []),()) fun x0=>
(A.letT [.i] ((A.lit 0),()) fun x1=>
(A.iter [.l .i64,.i,.l .i64] (fun x2=>
(A.cond (A.cmp .lss x2.2.1 (A.len .i64 x2.1))
(A.chk (A.cmp .leq (A.lit 0) x2.2.1)
(A.chk (A.cmp .lss x2.2.1 (A.len .i64 x2.1))
(A.chk (p_k97 ((A.fI .i64 0 (A.get .i64 x2.1 x2.2.1)),()))
(A.letT [.i] ((f_k97 ((A.fI .i64 0 (A.get .i64 x2.1 x2.2.1)),())).1,()) fun x3=>
(A.letT [.l .i64] ((A.lst .i64 [(A.mkX .i64 (x3.1,()))]),()) fun x4=>
(A.chk (A.cmp .leq (A.addN (A.len .i64 x2.2.2.1) (A.len .i64 x4.1)) (A.lit 1073741824))
(A.letT [.l .i64] ((A.app .i64 x2.2.2.1 x4.1),()) fun x5=>
(A.letT [.i] ((A.arith .add .i64 x2.2.1 (A.lit 1)),()) fun x6=>
(A.inl [.l .i64,.i,.l .i64] (x2.1,x6.1,x5.1,()))))))))))
(A.inr [.l .i64,.i,.l .i64] (A.ret [.l .i64] (x2.2.2.1,()))))) (x.1,x1.1,x0.1,()))))
def F_k7 (A:Alg) (p_k10:Tup A.toCar [.x .poly]→A.B) (f_k10:Tup A.toCar [.x .poly]→Tup A.toCar [.b]) (p_k41:Tup A.toCar [.l .i64]→A.B) (f_k41:Tup A.toCar [.l .i64]→Tup A.toCar [.b]) (p_k27:Tup A.toCar [.x .poly,.l .i64]→A.B) (f_k27:Tup A.toCar [.x .poly,.l .i64]→Tup A.toCar [.i]) (x:Tup A.toCar [.x .poly,.l .i64]):A.M (Tup A.toCar [.i]):=
(A.letT [.i] ((A.lit 0),()) fun x0=>
(A.chk (p_k10 (x.1,()))
(A.letT [.b] ((f_k10 (x.1,())).1,()) fun x1=>
(A.chk (A.orB (A.notB (A.notB (A.notB x1.1))) (p_k41 (x.2.1,())))
(A.letT [.b] ((f_k41 (x.2.1,())).1,()) fun x2=>
(A.cond (A.iteB (A.notB x1.1) (A.bl true) (A.notB x2.1))
(A.letT [.i] ((A.lit 0),()) fun x3=>
(A.ret [.i] (x3.1,())))
(A.chk (p_k27 (x.1,x.2.1,()))
(A.letT [.i] ((f_k27 (x.1,x.2.1,())).1,()) fun x3=>
(A.letT [.i] (x3.1,()) fun x4=>
(A.ret [.i] (x4.1,())))))))))))
def F_k42 (A:Alg) (p_k95:Tup A.toCar [.i,.i,.i]→A.B) (f_k95:Tup A.toCar [.i,.i,.i]→Tup A.toCar [.i]) (p_k92:Tup A.toCar [.x .tab,.i,.x .poly,.x .poly]→A.B) (f_k92:Tup A.toCar [.x .tab,.i,.x .poly,.x .poly]→Tup A.toCar [.l .atom,.l .mono]) (p_k79:Tup A.toCar [.l .u8]→A.B) (f_k79:Tup A.toCar [.l .u8]→Tup A.toCar [.i,.l .mono,.l .mono,.l .atom]) (p_k19:Tup A.toCar [.x .tab]→A.B) (f_k19:Tup A.toCar [.x .tab]→Tup A.toCar [.b]) (p_k18:Tup A.toCar [.x .tab,.i,.x .poly,.x .poly]→A.B) (f_k18:Tup A.toCar [.x .tab,.i,.x .poly,.x .poly]→Tup A.toCar [.l .atom,.l .mono]) (p_k46:Tup A.toCar []→A.B) (f_k46:Tup A.toCar []→Tup A.toCar [.b]) (p_k45:Tup A.toCar [.l .i64,.l .i64]→A.B) (f_k45:Tup A.toCar [.l .i64,.l .i64]→Tup A.toCar [.b]) (p_k47:Tup A.toCar [.x .poly,.x .poly]→A.B) (f_k47:Tup A.toCar [.x .poly,.x .poly]→Tup A.toCar [.b]) (p_k48:Tup A.toCar [.x .tab,.x .tab]→A.B) (f_k48:Tup A.toCar [.x .tab,.x .tab]→Tup A.toCar [.b]) (p_k80:Tup A.toCar [.l .u8]→A.B) (f_k80:Tup A.toCar [.l .u8]→Tup A.toCar [.l .atom,.l .i64,.l .i64,.l .i64]) (p_k25:Tup A.toCar [.x .tab,.l .i64,.l .i64,.l .i64]→A.B) (f_k25:Tup A.toCar [.x .tab,.l .i64,.l .i64,.l .i64]→Tup A.toCar [.l .i64]) (p_k49:Tup A.toCar [.l .i64]→A.B) (f_k49:Tup A.toCar [.l .i64]→Tup A.toCar [.l .i64]) (p_k7:Tup A.toCar [.x .poly,.l .i64]→A.B) (f_k7:Tup A.toCar [.x .poly,.l .i64]→Tup A.toCar [.i]) (x:Tup A.toCar [.l .u8,.l .u8]):A.M (Tup A.toCar [.b]):=
(A.letT [.b] ((A.bl false),()) fun x0=>
(A.cond (A.iteB (A.cmp .gtr (A.len .u8 x.1) (A.lit 1048576)) (A.bl true) (A.cmp .gtr (A.len .u8 x.2.1) (A.lit 1048576)))
(A.letT [.b] ((A.bl true),()) fun x1=>
(A.ret [.b] (x1.1,())))
(A.chk (p_k79 (x.1,()))
(A.letT [.i,.l .mono,.l .mono,.l .atom] ((f_k79 (x.1,())).1,(f_k79 (x.1,())).2.1,(f_k79 (x.1,())).2.2.1,(f_k79 (x.1,())).2.2.2.1,()) fun x1=>
(A.letT [.i] (x1.1,()) fun x2=>
(A.chk (p_k80 (x.2.1,()))
(A.letT [.l .atom,.l .i64,.l .i64,.l .i64] ((f_k80 (x.2.1,())).1,(f_k80 (x.2.1,())).2.1,(f_k80 (x.2.1,())).2.2.1,(f_k80 (x.2.1,())).2.2.2.1,()) fun x3=>
(A.chk (p_k18 ((A.mkX .tab (x1.2.2.2.1,())),x2.1,(A.mkX .poly (x1.2.1,())),(A.mkX .poly (x1.2.2.1,())),()))
(A.letT [.l .atom,.l .mono] ((f_k18 ((A.mkX .tab (x1.2.2.2.1,())),x2.1,(A.mkX .poly (x1.2.1,())),(A.mkX .poly (x1.2.2.1,())),())).1,(f_k18 ((A.mkX .tab (x1.2.2.2.1,())),x2.1,(A.mkX .poly (x1.2.1,())),(A.mkX .poly (x1.2.2.1,())),())).2.1,()) fun x4=>
(A.chk (p_k92 ((A.mkX .tab (x1.2.2.2.1,())),x2.1,(A.mkX .poly (x1.2.1,())),(A.mkX .poly (x1.2.2.1,())),()))
(A.letT [.l .atom,.l .mono] ((f_k92 ((A.mkX .tab (x1.2.2.2.1,())),x2.1,(A.mkX .poly (x1.2.1,())),(A.mkX .poly (x1.2.2.1,())),())).1,(f_k92 ((A.mkX .tab (x1.2.2.2.1,())),x2.1,(A.mkX .poly (x1.2.1,())),(A.mkX .poly (x1.2.2.1,())),())).2.1,()) fun x5=>
(A.chk (p_k48 ((A.mkX .tab (x4.1,())),(A.mkX .tab (x5.1,())),()))
(A.letT [.b] ((f_k48 ((A.mkX .tab (x4.1,())),(A.mkX .tab (x5.1,())),())).1,()) fun x6=>
(A.chk (A.orB (A.notB (A.notB (A.notB x6.1))) (p_k47 ((A.mkX .poly (x4.2.1,())),(A.mkX .poly (x5.2.1,())),())))
(A.letT [.b] ((f_k47 ((A.mkX .poly (x4.2.1,())),(A.mkX .poly (x5.2.1,())),())).1,()) fun x7=>
(A.cond (A.iteB (A.notB x6.1) (A.bl true) (A.notB x7.1))
(A.letT [.b] ((A.bl false),()) fun x8=>
(A.ret [.b] (x8.1,())))
(A.cond (A.cmp .eql (A.len .atom x4.1) (A.lit 0))
(A.chk (A.orB (A.notB (A.cmp .eql (A.len .mono x4.2.1) (A.lit 0))) (p_k46 (())))
(A.letT [.b] ((f_k46 (())).1,()) fun x8=>
(A.letT [.b] ((A.iteB (A.cmp .eql (A.len .mono x4.2.1) (A.lit 0)) x8.1 (A.bl false)),()) fun x9=>
(A.ret [.b] (x9.1,())))))
(A.chk (p_k49 (x3.2.1,()))
(A.letT [.l .i64] ((f_k49 (x3.2.1,())).1,()) fun x8=>
(A.chk (p_k25 ((A.mkX .tab (x4.1,())),x8.1,x3.2.2.1,x3.2.2.2.1,()))
(A.letT [.l .i64] ((f_k25 ((A.mkX .tab (x4.1,())),x8.1,x3.2.2.1,x3.2.2.2.1,())).1,()) fun x9=>
(A.chk (p_k49 (x3.2.1,()))
(A.letT [.l .i64] ((f_k49 (x3.2.1,())).1,()) fun x10=>
(A.chk (p_k25 ((A.mkX .tab (x1.2.2.2.1,())),x10.1,x3.2.2.1,x3.2.2.2.1,()))
(A.letT [.l .i64] ((f_k25 ((A.mkX .tab (x1.2.2.2.1,())),x10.1,x3.2.2.1,x3.2.2.2.1,())).1,()) fun x11=>
(A.chk (p_k19 ((A.mkX .tab (x4.1,())),()))
(A.letT [.b] ((f_k19 ((A.mkX .tab (x4.1,())),())).1,()) fun x12=>
(A.chk (A.orB (A.notB (A.notB (A.iteB (A.notB x12.1) (A.bl true) (A.cmp .lss (A.len .i64 x9.1) (A.len .i64 x11.1))))) (A.cmp .leq (A.lit 0) (A.lit 0)))
(A.chk (A.orB (A.notB (A.notB (A.iteB (A.notB x12.1) (A.bl true) (A.cmp .lss (A.len .i64 x9.1) (A.len .i64 x11.1))))) (A.cmp .leq (A.lit 0) (A.len .i64 x11.1)))
(A.chk (A.orB (A.notB (A.notB (A.iteB (A.notB x12.1) (A.bl true) (A.cmp .lss (A.len .i64 x9.1) (A.len .i64 x11.1))))) (A.cmp .leq (A.len .i64 x11.1) (A.len .i64 x9.1)))
(A.chk (A.orB (A.notB (A.notB (A.iteB (A.notB x12.1) (A.bl true) (A.cmp .lss (A.len .i64 x9.1) (A.len .i64 x11.1))))) (A.cmp .leq (A.lit 0) (A.lit 0)))
(A.chk (A.orB (A.notB (A.notB (A.iteB (A.notB x12.1) (A.bl true) (A.cmp .lss (A.len .i64 x9.1) (A.len .i64 x11.1))))) (A.cmp .leq (A.lit 0) (A.subN (A.len .i64 x11.1) (A.lit 0))))
(A.chk (A.orB (A.notB (A.notB (A.iteB (A.notB x12.1) (A.bl true) (A.cmp .lss (A.len .i64 x9.1) (A.len .i64 x11.1))))) (A.cmp .leq (A.addN (A.lit 0) (A.subN (A.len .i64 x11.1) (A.lit 0))) (A.len .i64 x9.1)))
(A.chk (A.orB (A.notB (A.notB (A.iteB (A.notB x12.1) (A.bl true) (A.cmp .lss (A.len .i64 x9.1) (A.len .i64 x11.1))))) (p_k45 ((A.sub .i64 x9.1 (A.lit 0) (A.addN (A.lit 0) (A.subN (A.len .i64 x11.1) (A.lit 0)))),x11.1,())))
(A.letT [.b] ((f_k45 ((A.sub .i64 x9.1 (A.lit 0) (A.addN (A.lit 0) (A.subN (A.len .i64 x11.1) (A.lit 0)))),x11.1,())).1,()) fun x13=>
(A.cond (A.iteB (A.iteB (A.iteB (A.notB x12.1) (A.bl true) (A.cmp .lss (A.len .i64 x9.1) (A.len .i64 x11.1))) (A.bl true) (A.notB x13.1)) (A.bl true) (A.cmp .gtr (A.len .atom x4.1) (A.arith .add .i64 (A.len .atom x1.2.2.2.1) (A.lit 1))))
(A.letT [.b] ((A.bl false),()) fun x14=>
(A.ret [.b] (x14.1,())))
(A.chk (p_k7 ((A.mkX .poly (x4.2.1,())),x9.1,()))
(A.letT [.i] ((f_k7 ((A.mkX .poly (x4.2.1,())),x9.1,())).1,()) fun x14=>
(A.chk (p_k7 ((A.mkX .poly (x1.2.1,())),x9.1,()))
(A.letT [.i] ((f_k7 ((A.mkX .poly (x1.2.1,())),x9.1,())).1,()) fun x15=>
(A.chk (p_k7 ((A.mkX .poly (x1.2.2.1,())),x9.1,()))
(A.letT [.i] ((f_k7 ((A.mkX .poly (x1.2.2.1,())),x9.1,())).1,()) fun x16=>
(A.chk (p_k95 (x2.1,x15.1,x16.1,()))
(A.letT [.i] ((f_k95 (x2.1,x15.1,x16.1,())).1,()) fun x17=>
(A.letT [.b] ((A.cmp .eql x14.1 x17.1),()) fun x18=>
(A.ret [.b] (x18.1,())))))))))))))))))))))))))))))))))))))))))))))))
end Go.TX.F
namespace Go.TX.Seat
open Go Go.AE Go.TX Go.Proofs
set_option maxRecDepth 100000
def ty:TypeId→Option TY
  | 2=>some ⟨(.int .i64),1,8,[.d true (.int .i64 0)]⟩
  | 3=>some ⟨(.int .i64),1,8,[.d true (.int .i64 0)]⟩
  | 4=>some ⟨.bool,1,1,[.d true (.bool false)]⟩
  | 5=>some ⟨(.int .u8),1,1,[.d true (.int .u8 0)]⟩
  | 6=>some ⟨(.int .u8),1,1,[.d true (.int .u8 0)]⟩
  | 7=>some ⟨(.struct [(0,2),(1,3),(2,4),(3,6)]),4,24,[.d true (.int .i64 0),.d true (.int .i64 0),.d true (.bool false),.d true (.int .u8 0)]⟩
  | 8=>some ⟨(.struct [(0,2),(1,3),(2,4),(3,6)]),4,24,[.d true (.int .i64 0),.d true (.int .i64 0),.d true (.bool false),.d true (.int .u8 0)]⟩
  | 9=>some ⟨.scalar,1,16,[.d true (.str ⟨#[]⟩)]⟩
  | 10=>some ⟨.scalar,1,16,[.d true (.str ⟨#[]⟩)]⟩
  | 11=>some ⟨.scalar,1,16,[.d true (.str ⟨#[]⟩)]⟩
  | 12=>some ⟨(.int .u64),1,8,[.d true (.int .u64 0)]⟩
  | 13=>some ⟨(.struct [(0,9),(1,12)]),2,24,[.d true (.str ⟨#[]⟩),.d true (.int .u64 0)]⟩
  | 14=>some ⟨(.struct [(0,9),(1,12)]),2,24,[.d true (.str ⟨#[]⟩),.d true (.int .u64 0)]⟩
  | 15=>some ⟨.scalar,1,8,[.np]⟩
  | 16=>some ⟨.scalar,1,8,[.np]⟩
  | 17=>some ⟨.scalar,1,8,[.np]⟩
  | 18=>some ⟨(.struct [(0,17)]),1,8,[.np]⟩
  | 19=>some ⟨(.struct [(0,17)]),1,8,[.np]⟩
  | 21=>some ⟨(.int .i32),1,4,[.d true (.int .i32 0)]⟩
  | 22=>some ⟨(.slice 5),1,24,[.nil]⟩
  | 23=>some ⟨(.slice 64),1,24,[.nil]⟩
  | 24=>some ⟨(.struct [(0,23)]),1,24,[.nil]⟩
  | 25=>some ⟨(.struct [(0,23)]),1,24,[.nil]⟩
  | 26=>some ⟨(.slice 66),1,24,[.nil]⟩
  | 27=>some ⟨(.struct [(0,26)]),1,24,[.nil]⟩
  | 28=>some ⟨(.struct [(0,26)]),1,24,[.nil]⟩
  | 43=>some ⟨(.slice 3),1,24,[.nil]⟩
  | 51=>some ⟨.scalar,1,8,[.np]⟩
  | 63=>some ⟨(.struct [(0,3),(1,3),(2,28),(3,28)]),4,64,[.d true (.int .i64 0),.d true (.int .i64 0),.nil,.nil]⟩
  | 64=>some ⟨(.struct [(0,3),(1,3),(2,28),(3,28)]),4,64,[.d true (.int .i64 0),.d true (.int .i64 0),.nil,.nil]⟩
  | 65=>some ⟨(.struct [(0,3),(1,43)]),2,32,[.d true (.int .i64 0),.nil]⟩
  | 66=>some ⟨(.struct [(0,3),(1,43)]),2,32,[.d true (.int .i64 0),.nil]⟩
  | 76=>some ⟨(.struct [(0,22),(1,3)]),2,32,[.nil,.d true (.int .i64 0)]⟩
  | 77=>some ⟨(.struct [(0,22),(1,3)]),2,32,[.nil,.d true (.int .i64 0)]⟩
  | 95=>some ⟨(.slice 28),1,24,[.nil]⟩
  | 117=>some ⟨(.slice 26),1,24,[.nil]⟩
  | 119=>some ⟨(.slice 43),1,24,[.nil]⟩
  | 123=>some ⟨(.int .u64),1,8,[.d true (.int .u64 0)]⟩
  | 126=>some ⟨(.int .i64),1,8,[.d true (.int .i64 0)]⟩
  | 133=>some ⟨(.int .u32),1,4,[.d true (.int .u32 0)]⟩
  | 135=>some ⟨(.int .u64),1,8,[.d true (.int .u64 0)]⟩
  | 138=>some ⟨(.int .u64),1,8,[.d true (.int .u64 0)]⟩
  | 142=>some ⟨.scalar,1,8,[.np]⟩
  | 144=>some ⟨.scalar,1,8,[.np]⟩
  | 148=>some ⟨(.struct [(0,17),(1,17),(2,17),(3,9)]),4,40,[.np,.np,.np,.d true (.str ⟨#[]⟩)]⟩
  | 149=>some ⟨(.struct [(0,17),(1,17),(2,17),(3,9)]),4,40,[.np,.np,.np,.d true (.str ⟨#[]⟩)]⟩
  | 154=>some ⟨(.int .u8),1,1,[.d true (.int .u8 0)]⟩
  | 155=>some ⟨(.int .u8),1,1,[.d true (.int .u8 0)]⟩
  | 157=>some ⟨.scalar,1,8,[.np]⟩
  | 158=>some ⟨(.int .i32),1,4,[.d true (.int .i32 0)]⟩
  | 159=>some ⟨(.int .i32),1,4,[.d true (.int .i32 0)]⟩
  | _=>none
theorem ok2:TYok Tryz.prog 2 ⟨(.int .i64),1,8,[.d true (.int .i64 0)]⟩:=⟨⟨Tryz.t2,by kernel_rfl,rfl,rfl,_,rfl,fun c w=>zcs_rel (by rfl)⟩,Tryz.underlying2,rfl⟩
theorem ok3:TYok Tryz.prog 3 ⟨(.int .i64),1,8,[.d true (.int .i64 0)]⟩:=⟨⟨Tryz.t3,by kernel_rfl,rfl,rfl,_,rfl,fun c w=>zcs_rel (by rfl)⟩,Tryz.underlying3,rfl⟩
theorem ok4:TYok Tryz.prog 4 ⟨.bool,1,1,[.d true (.bool false)]⟩:=⟨⟨Tryz.t4,by kernel_rfl,rfl,rfl,_,rfl,fun c w=>zcs_rel (by rfl)⟩,Tryz.underlying4,rfl⟩
theorem ok5:TYok Tryz.prog 5 ⟨(.int .u8),1,1,[.d true (.int .u8 0)]⟩:=⟨⟨Tryz.t5,by kernel_rfl,rfl,rfl,_,rfl,fun c w=>zcs_rel (by rfl)⟩,Tryz.underlying5,rfl⟩
theorem ok6:TYok Tryz.prog 6 ⟨(.int .u8),1,1,[.d true (.int .u8 0)]⟩:=⟨⟨Tryz.t6,by kernel_rfl,rfl,rfl,_,rfl,fun c w=>zcs_rel (by rfl)⟩,Tryz.underlying6,rfl⟩
theorem ok7:TYok Tryz.prog 7 ⟨(.struct [(0,2),(1,3),(2,4),(3,6)]),4,24,[.d true (.int .i64 0),.d true (.int .i64 0),.d true (.bool false),.d true (.int .u8 0)]⟩:=⟨⟨Tryz.t7,by kernel_rfl,rfl,rfl,_,rfl,fun c w=>zcs_rel (by rfl)⟩,⟨_,Tryz.underlying7,by rfl⟩,rfl⟩
theorem ok8:TYok Tryz.prog 8 ⟨(.struct [(0,2),(1,3),(2,4),(3,6)]),4,24,[.d true (.int .i64 0),.d true (.int .i64 0),.d true (.bool false),.d true (.int .u8 0)]⟩:=⟨⟨Tryz.t8,by kernel_rfl,rfl,rfl,_,rfl,fun c w=>zcs_rel (by rfl)⟩,⟨_,Tryz.underlying8,by rfl⟩,rfl⟩
theorem ok9:TYok Tryz.prog 9 ⟨.scalar,1,16,[.d true (.str ⟨#[]⟩)]⟩:=⟨⟨Tryz.t9,by kernel_rfl,rfl,rfl,_,rfl,fun c w=>zcs_rel (by rfl)⟩,⟨_,Tryz.underlying9,(fun _ h=>by cases h),(fun _ _ h=>by cases h)⟩,rfl⟩
theorem ok10:TYok Tryz.prog 10 ⟨.scalar,1,16,[.d true (.str ⟨#[]⟩)]⟩:=⟨⟨Tryz.t10,by kernel_rfl,rfl,rfl,_,rfl,fun c w=>zcs_rel (by rfl)⟩,⟨_,Tryz.underlying10,(fun _ h=>by cases h),(fun _ _ h=>by cases h)⟩,rfl⟩
theorem ok11:TYok Tryz.prog 11 ⟨.scalar,1,16,[.d true (.str ⟨#[]⟩)]⟩:=⟨⟨Tryz.t11,by kernel_rfl,rfl,rfl,_,rfl,fun c w=>zcs_rel (by rfl)⟩,⟨_,Tryz.underlying11,(fun _ h=>by cases h),(fun _ _ h=>by cases h)⟩,rfl⟩
theorem ok12:TYok Tryz.prog 12 ⟨(.int .u64),1,8,[.d true (.int .u64 0)]⟩:=⟨⟨Tryz.t12,by kernel_rfl,rfl,rfl,_,rfl,fun c w=>zcs_rel (by rfl)⟩,Tryz.underlying12,rfl⟩
theorem ok13:TYok Tryz.prog 13 ⟨(.struct [(0,9),(1,12)]),2,24,[.d true (.str ⟨#[]⟩),.d true (.int .u64 0)]⟩:=⟨⟨Tryz.t13,by kernel_rfl,rfl,rfl,_,rfl,fun c w=>zcs_rel (by rfl)⟩,⟨_,Tryz.underlying13,by rfl⟩,rfl⟩
theorem ok14:TYok Tryz.prog 14 ⟨(.struct [(0,9),(1,12)]),2,24,[.d true (.str ⟨#[]⟩),.d true (.int .u64 0)]⟩:=⟨⟨Tryz.t14,by kernel_rfl,rfl,rfl,_,rfl,fun c w=>zcs_rel (by rfl)⟩,⟨_,Tryz.underlying14,by rfl⟩,rfl⟩
theorem ok15:TYok Tryz.prog 15 ⟨.scalar,1,8,[.np]⟩:=⟨⟨Tryz.t15,by kernel_rfl,rfl,rfl,_,rfl,fun c w=>zcs_rel (by rfl)⟩,⟨_,Tryz.underlying15,(fun _ h=>by cases h),(fun _ _ h=>by cases h)⟩,rfl⟩
theorem ok16:TYok Tryz.prog 16 ⟨.scalar,1,8,[.np]⟩:=⟨⟨Tryz.t16,by kernel_rfl,rfl,rfl,_,rfl,fun c w=>zcs_rel (by rfl)⟩,⟨_,Tryz.underlying16,(fun _ h=>by cases h),(fun _ _ h=>by cases h)⟩,rfl⟩
theorem ok17:TYok Tryz.prog 17 ⟨.scalar,1,8,[.np]⟩:=⟨⟨Tryz.t17,by kernel_rfl,rfl,rfl,_,rfl,fun c w=>zcs_rel (by rfl)⟩,⟨_,Tryz.underlying17,(fun _ h=>by cases h),(fun _ _ h=>by cases h)⟩,rfl⟩
theorem ok18:TYok Tryz.prog 18 ⟨(.struct [(0,17)]),1,8,[.np]⟩:=⟨⟨Tryz.t18,by kernel_rfl,rfl,rfl,_,rfl,fun c w=>zcs_rel (by rfl)⟩,⟨_,Tryz.underlying18,by rfl⟩,rfl⟩
theorem ok19:TYok Tryz.prog 19 ⟨(.struct [(0,17)]),1,8,[.np]⟩:=⟨⟨Tryz.t19,by kernel_rfl,rfl,rfl,_,rfl,fun c w=>zcs_rel (by rfl)⟩,⟨_,Tryz.underlying19,by rfl⟩,rfl⟩
theorem ok21:TYok Tryz.prog 21 ⟨(.int .i32),1,4,[.d true (.int .i32 0)]⟩:=⟨⟨Tryz.t21,by kernel_rfl,rfl,rfl,_,rfl,fun c w=>zcs_rel (by rfl)⟩,Tryz.underlying21,rfl⟩
theorem ok22:TYok Tryz.prog 22 ⟨(.slice 5),1,24,[.nil]⟩:=⟨⟨Tryz.t22,by kernel_rfl,rfl,rfl,_,rfl,fun c w=>zcs_rel (by rfl)⟩,Tryz.underlying22,rfl⟩
theorem ok23:TYok Tryz.prog 23 ⟨(.slice 64),1,24,[.nil]⟩:=⟨⟨Tryz.t23,by kernel_rfl,rfl,rfl,_,rfl,fun c w=>zcs_rel (by rfl)⟩,Tryz.underlying23,rfl⟩
theorem ok24:TYok Tryz.prog 24 ⟨(.struct [(0,23)]),1,24,[.nil]⟩:=⟨⟨Tryz.t24,by kernel_rfl,rfl,rfl,_,rfl,fun c w=>zcs_rel (by rfl)⟩,⟨_,Tryz.underlying24,by rfl⟩,rfl⟩
theorem ok25:TYok Tryz.prog 25 ⟨(.struct [(0,23)]),1,24,[.nil]⟩:=⟨⟨Tryz.t25,by kernel_rfl,rfl,rfl,_,rfl,fun c w=>zcs_rel (by rfl)⟩,⟨_,Tryz.underlying25,by rfl⟩,rfl⟩
theorem ok26:TYok Tryz.prog 26 ⟨(.slice 66),1,24,[.nil]⟩:=⟨⟨Tryz.t26,by kernel_rfl,rfl,rfl,_,rfl,fun c w=>zcs_rel (by rfl)⟩,Tryz.underlying26,rfl⟩
theorem ok27:TYok Tryz.prog 27 ⟨(.struct [(0,26)]),1,24,[.nil]⟩:=⟨⟨Tryz.t27,by kernel_rfl,rfl,rfl,_,rfl,fun c w=>zcs_rel (by rfl)⟩,⟨_,Tryz.underlying27,by rfl⟩,rfl⟩
theorem ok28:TYok Tryz.prog 28 ⟨(.struct [(0,26)]),1,24,[.nil]⟩:=⟨⟨Tryz.t28,by kernel_rfl,rfl,rfl,_,rfl,fun c w=>zcs_rel (by rfl)⟩,⟨_,Tryz.underlying28,by rfl⟩,rfl⟩
theorem ok43:TYok Tryz.prog 43 ⟨(.slice 3),1,24,[.nil]⟩:=⟨⟨Tryz.t43,by kernel_rfl,rfl,rfl,_,rfl,fun c w=>zcs_rel (by rfl)⟩,Tryz.underlying43,rfl⟩
theorem ok51:TYok Tryz.prog 51 ⟨.scalar,1,8,[.np]⟩:=⟨⟨Tryz.t51,by kernel_rfl,rfl,rfl,_,rfl,fun c w=>zcs_rel (by rfl)⟩,⟨_,Tryz.underlying51,(fun _ h=>by cases h),(fun _ _ h=>by cases h)⟩,rfl⟩
theorem ok63:TYok Tryz.prog 63 ⟨(.struct [(0,3),(1,3),(2,28),(3,28)]),4,64,[.d true (.int .i64 0),.d true (.int .i64 0),.nil,.nil]⟩:=⟨⟨Tryz.t63,by kernel_rfl,rfl,rfl,_,rfl,fun c w=>zcs_rel (by rfl)⟩,⟨_,Tryz.underlying63,by rfl⟩,rfl⟩
theorem ok64:TYok Tryz.prog 64 ⟨(.struct [(0,3),(1,3),(2,28),(3,28)]),4,64,[.d true (.int .i64 0),.d true (.int .i64 0),.nil,.nil]⟩:=⟨⟨Tryz.t64,by kernel_rfl,rfl,rfl,_,rfl,fun c w=>zcs_rel (by rfl)⟩,⟨_,Tryz.underlying64,by rfl⟩,rfl⟩
theorem ok65:TYok Tryz.prog 65 ⟨(.struct [(0,3),(1,43)]),2,32,[.d true (.int .i64 0),.nil]⟩:=⟨⟨Tryz.t65,by kernel_rfl,rfl,rfl,_,rfl,fun c w=>zcs_rel (by rfl)⟩,⟨_,Tryz.underlying65,by rfl⟩,rfl⟩
theorem ok66:TYok Tryz.prog 66 ⟨(.struct [(0,3),(1,43)]),2,32,[.d true (.int .i64 0),.nil]⟩:=⟨⟨Tryz.t66,by kernel_rfl,rfl,rfl,_,rfl,fun c w=>zcs_rel (by rfl)⟩,⟨_,Tryz.underlying66,by rfl⟩,rfl⟩
theorem ok76:TYok Tryz.prog 76 ⟨(.struct [(0,22),(1,3)]),2,32,[.nil,.d true (.int .i64 0)]⟩:=⟨⟨Tryz.t76,by kernel_rfl,rfl,rfl,_,rfl,fun c w=>zcs_rel (by rfl)⟩,⟨_,Tryz.underlying76,by rfl⟩,rfl⟩
theorem ok77:TYok Tryz.prog 77 ⟨(.struct [(0,22),(1,3)]),2,32,[.nil,.d true (.int .i64 0)]⟩:=⟨⟨Tryz.t77,by kernel_rfl,rfl,rfl,_,rfl,fun c w=>zcs_rel (by rfl)⟩,⟨_,Tryz.underlying77,by rfl⟩,rfl⟩
theorem ok95:TYok Tryz.prog 95 ⟨(.slice 28),1,24,[.nil]⟩:=⟨⟨Tryz.t95,by kernel_rfl,rfl,rfl,_,rfl,fun c w=>zcs_rel (by rfl)⟩,Tryz.underlying95,rfl⟩
theorem ok117:TYok Tryz.prog 117 ⟨(.slice 26),1,24,[.nil]⟩:=⟨⟨Tryz.t117,by kernel_rfl,rfl,rfl,_,rfl,fun c w=>zcs_rel (by rfl)⟩,Tryz.underlying117,rfl⟩
theorem ok119:TYok Tryz.prog 119 ⟨(.slice 43),1,24,[.nil]⟩:=⟨⟨Tryz.t119,by kernel_rfl,rfl,rfl,_,rfl,fun c w=>zcs_rel (by rfl)⟩,Tryz.underlying119,rfl⟩
theorem ok123:TYok Tryz.prog 123 ⟨(.int .u64),1,8,[.d true (.int .u64 0)]⟩:=⟨⟨Tryz.t123,by kernel_rfl,rfl,rfl,_,rfl,fun c w=>zcs_rel (by rfl)⟩,Tryz.underlying123,rfl⟩
theorem ok126:TYok Tryz.prog 126 ⟨(.int .i64),1,8,[.d true (.int .i64 0)]⟩:=⟨⟨Tryz.t126,by kernel_rfl,rfl,rfl,_,rfl,fun c w=>zcs_rel (by rfl)⟩,Tryz.underlying126,rfl⟩
theorem ok133:TYok Tryz.prog 133 ⟨(.int .u32),1,4,[.d true (.int .u32 0)]⟩:=⟨⟨Tryz.t133,by kernel_rfl,rfl,rfl,_,rfl,fun c w=>zcs_rel (by rfl)⟩,Tryz.underlying133,rfl⟩
theorem ok135:TYok Tryz.prog 135 ⟨(.int .u64),1,8,[.d true (.int .u64 0)]⟩:=⟨⟨Tryz.t135,by kernel_rfl,rfl,rfl,_,rfl,fun c w=>zcs_rel (by rfl)⟩,Tryz.underlying135,rfl⟩
theorem ok138:TYok Tryz.prog 138 ⟨(.int .u64),1,8,[.d true (.int .u64 0)]⟩:=⟨⟨Tryz.t138,by kernel_rfl,rfl,rfl,_,rfl,fun c w=>zcs_rel (by rfl)⟩,Tryz.underlying138,rfl⟩
theorem ok142:TYok Tryz.prog 142 ⟨.scalar,1,8,[.np]⟩:=⟨⟨Tryz.t142,by kernel_rfl,rfl,rfl,_,rfl,fun c w=>zcs_rel (by rfl)⟩,⟨_,Tryz.underlying142,(fun _ h=>by cases h),(fun _ _ h=>by cases h)⟩,rfl⟩
theorem ok144:TYok Tryz.prog 144 ⟨.scalar,1,8,[.np]⟩:=⟨⟨Tryz.t144,by kernel_rfl,rfl,rfl,_,rfl,fun c w=>zcs_rel (by rfl)⟩,⟨_,Tryz.underlying144,(fun _ h=>by cases h),(fun _ _ h=>by cases h)⟩,rfl⟩
theorem ok148:TYok Tryz.prog 148 ⟨(.struct [(0,17),(1,17),(2,17),(3,9)]),4,40,[.np,.np,.np,.d true (.str ⟨#[]⟩)]⟩:=⟨⟨Tryz.t148,by kernel_rfl,rfl,rfl,_,rfl,fun c w=>zcs_rel (by rfl)⟩,⟨_,Tryz.underlying148,by rfl⟩,rfl⟩
theorem ok149:TYok Tryz.prog 149 ⟨(.struct [(0,17),(1,17),(2,17),(3,9)]),4,40,[.np,.np,.np,.d true (.str ⟨#[]⟩)]⟩:=⟨⟨Tryz.t149,by kernel_rfl,rfl,rfl,_,rfl,fun c w=>zcs_rel (by rfl)⟩,⟨_,Tryz.underlying149,by rfl⟩,rfl⟩
theorem ok154:TYok Tryz.prog 154 ⟨(.int .u8),1,1,[.d true (.int .u8 0)]⟩:=⟨⟨Tryz.t154,by kernel_rfl,rfl,rfl,_,rfl,fun c w=>zcs_rel (by rfl)⟩,Tryz.underlying154,rfl⟩
theorem ok155:TYok Tryz.prog 155 ⟨(.int .u8),1,1,[.d true (.int .u8 0)]⟩:=⟨⟨Tryz.t155,by kernel_rfl,rfl,rfl,_,rfl,fun c w=>zcs_rel (by rfl)⟩,Tryz.underlying155,rfl⟩
theorem ok157:TYok Tryz.prog 157 ⟨.scalar,1,8,[.np]⟩:=⟨⟨Tryz.t157,by kernel_rfl,rfl,rfl,_,rfl,fun c w=>zcs_rel (by rfl)⟩,⟨_,Tryz.underlying157,(fun _ h=>by cases h),(fun _ _ h=>by cases h)⟩,rfl⟩
theorem ok158:TYok Tryz.prog 158 ⟨(.int .i32),1,4,[.d true (.int .i32 0)]⟩:=⟨⟨Tryz.t158,by kernel_rfl,rfl,rfl,_,rfl,fun c w=>zcs_rel (by rfl)⟩,Tryz.underlying158,rfl⟩
theorem ok159:TYok Tryz.prog 159 ⟨(.int .i32),1,4,[.d true (.int .i32 0)]⟩:=⟨⟨Tryz.t159,by kernel_rfl,rfl,rfl,_,rfl,fun c w=>zcs_rel (by rfl)⟩,Tryz.underlying159,rfl⟩
theorem tyOK:∀t y,ty t=some y→TYok Tryz.prog t y:=by
  intro t y h
  unfold ty at h
  split at h<;>first | (cases h;done) | skip
  · cases h;exact ok2
  · cases h;exact ok3
  · cases h;exact ok4
  · cases h;exact ok5
  · cases h;exact ok6
  · cases h;exact ok7
  · cases h;exact ok8
  · cases h;exact ok9
  · cases h;exact ok10
  · cases h;exact ok11
  · cases h;exact ok12
  · cases h;exact ok13
  · cases h;exact ok14
  · cases h;exact ok15
  · cases h;exact ok16
  · cases h;exact ok17
  · cases h;exact ok18
  · cases h;exact ok19
  · cases h;exact ok21
  · cases h;exact ok22
  · cases h;exact ok23
  · cases h;exact ok24
  · cases h;exact ok25
  · cases h;exact ok26
  · cases h;exact ok27
  · cases h;exact ok28
  · cases h;exact ok43
  · cases h;exact ok51
  · cases h;exact ok63
  · cases h;exact ok64
  · cases h;exact ok65
  · cases h;exact ok66
  · cases h;exact ok76
  · cases h;exact ok77
  · cases h;exact ok95
  · cases h;exact ok117
  · cases h;exact ok119
  · cases h;exact ok123
  · cases h;exact ok126
  · cases h;exact ok133
  · cases h;exact ok135
  · cases h;exact ok138
  · cases h;exact ok142
  · cases h;exact ok144
  · cases h;exact ok148
  · cases h;exact ok149
  · cases h;exact ok154
  · cases h;exact ok155
  · cases h;exact ok157
  · cases h;exact ok158
  · cases h;exact ok159
def co:TypeId→Option Co
  | 3=>some .i64
  | 4=>some .bool
  | 5=>some .u8
  | 9=>some .str
  | 25=>some .tab
  | 26=>some .poly
  | 28=>some .poly
  | 43=>some .ints
  | 64=>some .atom
  | 66=>some .mono
  | _=>none
def ieq:TypeId→Option Co
  | _=>none
def X:XT:={ty:=ty,co:=co,glob:=fun g=>none,ieq:=ieq}
noncomputable def E:Tab:={P:=Tryz.prog,ty:=ty,glob:=fun g=>none,ieq:=fun _=>none}
end Go.TX.Seat
namespace Go.TX.Seat
open Go Go.AE Go.TX Go.TX.F Go.Proofs
set_option maxRecDepth 100000
def ord_k99:List (Nat×List DEnt):=[]
def an_k99:Ann:=(.seq .u (.seq (.seq .u (.cut ⟨[(0,.c (.rows true .u8))],[]⟩ (.cond .u .u))) .u))
@[reducible] def lk_k99 : LitK := ⟨[]⟩
theorem run_k99 (A:Alg) (x:Tup A.toCar s_k99.inp): @runX lk_k99 A X (ofL A.toCar []) (ordL ord_k99) (@chkL lk_k99 E ord_k99) an_k99 s_k99 Tryz.f22 (Tryz.f22.body.getD .skip) x=F_k99 A x:=by kernel_rfl
def ord_k101:List (Nat×List DEnt):=[(7,[(0,([0],[])),(1,([47],[])),(2,([48],[])),(3,([49],[])),(4,([5],[])),(5,([0],[])),(6,([52],[])),(7,([53],[])),(8,([54],[])),(9,([55],[])),(10,([51,56],[])),(11,([50,57],[])),(12,([58],[])),(13,([59],[])),(14,([60],[])),(15,([0],[])),(16,([62],[])),(17,([63],[])),(18,([64],[])),(19,([5],[])),(20,([66],[])),(21,([67],[])),(22,([0],[])),(23,([69],[])),(24,([70],[])),(25,([71],[])),(26,([72],[])),(27,([68,73],[])),(28,([65,74],[])),(29,([75],[])),(30,([76],[])),(31,([77],[])),(32,([61,78],[])),(33,([5],[])),(34,([80],[])),(35,([79,81],[])),(36,([5],[])),(37,([0],[])),(38,([84],[])),(39,([85],[])),(40,([86],[])),(41,([87],[])),(42,([83,88],[])),(43,([89],[])),(44,([82,90],[])),(45,([91],[]))])]
def an_k101:Ann:= .u
@[reducible] def lk_k101 : LitK := ⟨[]⟩
theorem run_k101 (A:Alg) (x:Tup A.toCar s_k101.inp): @runX lk_k101 A X (ofL A.toCar []) (ordL ord_k101) (@chkL lk_k101 E ord_k101) an_k101 s_k101 Tryz.f24 (Tryz.f24.body.getD .skip) x=F_k101 A x:=by kernel_rfl
def ord_k100:List (Nat×List DEnt):=[]
def an_k100:Ann:= .u
@[reducible] def lk_k100 : LitK := ⟨[]⟩
theorem run_k100 (A:Alg) (c_k101:Ct A.toCar s_k101) (x:Tup A.toCar s_k100.inp): @runX lk_k100 A X (ofL A.toCar [(24,⟨s_k101,c_k101⟩)]) (ordL ord_k100) (@chkL lk_k100 E ord_k100) an_k100 s_k100 Tryz.f25 (Tryz.f25.body.getD .skip) x=F_k100 A c_k101.pre c_k101.fn x:=by kernel_rfl
def ord_k98:List (Nat×List DEnt):=[]
def an_k98:Ann:= .u
@[reducible] def lk_k98 : LitK := ⟨[]⟩
theorem run_k98 (A:Alg) (x:Tup A.toCar s_k98.inp): @runX lk_k98 A X (ofL A.toCar []) (ordL ord_k98) (@chkL lk_k98 E ord_k98) an_k98 s_k98 Tryz.f42 (Tryz.f42.body.getD .skip) x=F_k98 A x:=by kernel_rfl
def ord_k83:List (Nat×List DEnt):=[]
def an_k83:Ann:= .u
@[reducible] def lk_k83 : LitK := ⟨[]⟩
theorem run_k83 (A:Alg) (c_k98:Ct A.toCar s_k98) (x:Tup A.toCar s_k83.inp): @runX lk_k83 A X (ofL A.toCar [(42,⟨s_k98,c_k98⟩)]) (ordL ord_k83) (@chkL lk_k83 E ord_k83) an_k83 s_k83 Tryz.f29 (Tryz.f29.body.getD .skip) x=F_k83 A c_k98.pre c_k98.fn x:=by kernel_rfl
def ord_k111:List (Nat×List DEnt):=[(6,[(0,([1],[])),(1,([21],[])),(2,([3],[])),(3,([22,23],[])),(4,([24],[])),(5,([25],[])),(6,([26],[])),(7,([27],[])),(8,([3,28],[])),(9,([28,29],[])),(10,([28,30],[])),(11,([1,31],[])),(12,([31,32],[])),(13,([3,31],[])),(14,([31,34],[])),(15,([31,33,35],[])),(16,([31,36],[])),(17,([1,31],[])),(18,([31,38],[])),(19,([3,31],[])),(20,([31,39,40],[])),(21,([31,41],[])),(22,([31,37,42],[])),(23,([28,31,43],[])),(24,([28,44],[]))])]
def an_k111:Ann:=(.seq .u (.seq .u (.seq (.seq .u (.block (.loop ⟨[(1,.c (.pb 0 2 0)),(3,.c (.int .i64))],[.box (.sv false .mono)]⟩ .u))) .u)))
@[reducible] def lk_k111 : LitK := ⟨[]⟩
theorem run_k111 (A:Alg) (c_k98:Ct A.toCar s_k98) (x:Tup A.toCar s_k111.inp): @runX lk_k111 A X (ofL A.toCar [(42,⟨s_k98,c_k98⟩)]) (ordL ord_k111) (@chkL lk_k111 E ord_k111) an_k111 s_k111 Tryz.f98 (Tryz.f98.body.getD .skip) x=F_k111 A c_k98.pre c_k98.fn x:=by kernel_rfl
def ord_k112:List (Nat×List DEnt):=[(8,[(0,([0],[])),(1,([5],[])),(2,([22,23],[])),(3,([24],[])),(4,([1],[])),(5,([5],[])),(6,([26,27],[])),(7,([28],[])),(8,([25,29],[]))]),(10,[(0,([0],[])),(1,([5],[])),(2,([31,32],[])),(3,([33],[])),(4,([1],[])),(5,([5],[])),(6,([35,36],[])),(7,([37],[])),(8,([34,38],[]))])]
def an_k112:Ann:=(.seq .u (.seq .u (.seq (.seq .u (.block (.loop ⟨[(0,.c (.rows false .i64)),(1,.c (.rows false .i64)),(5,.c (.int .i64))],[]⟩ .u))) .u)))
@[reducible] def lk_k112 : LitK := ⟨[]⟩
theorem run_k112 (A:Alg) (x:Tup A.toCar s_k112.inp): @runX lk_k112 A X (ofL A.toCar []) (ordL ord_k112) (@chkL lk_k112 E ord_k112) an_k112 s_k112 Tryz.f99 (Tryz.f99.body.getD .skip) x=F_k112 A x:=by kernel_rfl
def ord_k87:List (Nat×List DEnt):=[(6,[(0,([1],[])),(1,([15],[])),(2,([3],[])),(3,([16,17],[])),(4,([18],[])),(5,([19],[])),(6,([20],[])),(7,([21],[])),(8,([3,22],[])),(9,([22,23],[])),(10,([22,24],[])),(11,([1,25],[])),(12,([25,26],[])),(13,([3,25],[])),(14,([25,28],[])),(15,([25,27,29],[])),(16,([25,30],[])),(17,([25,31],[])),(18,([1,25],[])),(19,([25,33],[])),(20,([3,25],[])),(21,([25,34,35],[])),(22,([25,36],[])),(23,([25,37],[])),(24,([25,32,38],[])),(25,([25,39],[])),(26,([22,25,40],[])),(27,([22,41],[]))])]
def an_k87:Ann:=(.seq .u (.seq .u (.seq (.seq .u (.block (.loop ⟨[(1,.c (.pb 0 1 0)),(3,.c (.int .i64))],[.box (.sv false .poly)]⟩ .u))) .u)))
@[reducible] def lk_k87 : LitK := ⟨[]⟩
theorem run_k87 (A:Alg) (c_k111:Ct A.toCar s_k111) (c_k112:Ct A.toCar s_k112) (x:Tup A.toCar s_k87.inp): @runX lk_k87 A X (ofL A.toCar [(98,⟨s_k111,c_k111⟩),(99,⟨s_k112,c_k112⟩)]) (ordL ord_k87) (@chkL lk_k87 E ord_k87) an_k87 s_k87 Tryz.f68 (Tryz.f68.body.getD .skip) x=F_k87 A c_k111.pre c_k111.fn c_k112.pre c_k112.fn x:=by kernel_rfl
def ord_k90:List (Nat×List DEnt):=[]
def an_k90:Ann:=(.seq .u (.seq (.seq .u (.block (.loop ⟨[(1,.c (.int .i64)),(2,.c (.pb 0 1 0)),(5,.c (.int .i64))],[.box (.sv false .poly)]⟩ (.seq .u (.seq (.block (.seq .u (.block (.loop ⟨[(1,.c (.int .i64)),(2,.c (.pb 0 1 0)),(5,.c (.int .i64)),(6,.c (.int .i64))],[.box (.sv false .poly)]⟩ .u)))) .u))))) .u))
@[reducible] def lk_k90 : LitK := ⟨[]⟩
theorem run_k90 (A:Alg) (x:Tup A.toCar s_k90.inp): @runX lk_k90 A X (ofL A.toCar []) (ordL ord_k90) (@chkL lk_k90 E ord_k90) an_k90 s_k90 Tryz.f69 (Tryz.f69.body.getD .skip) x=F_k90 A x:=by kernel_rfl
def ord_k115:List (Nat×List DEnt):=[]
def an_k115:Ann:= .u
@[reducible] def lk_k115 : LitK := ⟨[]⟩
theorem run_k115 (A:Alg) (x:Tup A.toCar s_k115.inp): @runX lk_k115 A X (ofL A.toCar []) (ordL ord_k115) (@chkL lk_k115 E ord_k115) an_k115 s_k115 Tryz.f97 (Tryz.f97.body.getD .skip) x=F_k115 A x:=by kernel_rfl
def ord_k114:List (Nat×List DEnt):=[]
def an_k114:Ann:=(.seq .u (.seq (.seq .u (.block (.seq .u (.cond .u (.seq (.seq .u (.cut ⟨[(1,.c (.int .i64)),(2,.c (.pb 0 4 0)),(6,.c (.int .i64)),(16,.c (.bool))],[.box (.sv false .atom)]⟩ (.cond .u .u))) .u))))) .u))
@[reducible] def lk_k114 : LitK := ⟨[]⟩
theorem run_k114 (A:Alg) (c_k98:Ct A.toCar s_k98) (c_k87:Ct A.toCar s_k87) (c_k90:Ct A.toCar s_k90) (c_k115:Ct A.toCar s_k115) (x:Tup A.toCar s_k114.inp): @runX lk_k114 A X (ofL A.toCar [(42,⟨s_k98,c_k98⟩),(68,⟨s_k87,c_k87⟩),(69,⟨s_k90,c_k90⟩),(97,⟨s_k115,c_k115⟩)]) (ordL ord_k114) (@chkL lk_k114 E ord_k114) an_k114 s_k114 Tryz.f66 (Tryz.f66.body.getD .skip) x=F_k114 A c_k98.pre c_k98.fn c_k87.pre c_k87.fn c_k90.pre c_k90.fn c_k115.pre c_k115.fn x:=by kernel_rfl
def ord_k88:List (Nat×List DEnt):=[(8,[(0,([2],[])),(1,([28],[])),(2,([5],[])),(3,([29,30],[])),(4,([31],[])),(5,([32],[])),(6,([3],[])),(7,([34],[])),(8,([5],[])),(9,([35,36],[])),(10,([37],[])),(11,([38],[])),(12,([33,39],[])),(13,([40],[]))]),(11,[(0,([2],[])),(1,([44],[])),(2,([5],[])),(3,([45,46],[])),(4,([47],[])),(5,([48],[])),(6,([3],[])),(7,([50],[])),(8,([5],[])),(9,([51,52],[])),(10,([53],[])),(11,([54],[])),(12,([49,55],[]))]),(12,[(0,([2],[])),(1,([57],[])),(2,([5],[])),(3,([58,59],[])),(4,([60],[])),(5,([61],[])),(6,([3],[])),(7,([63],[])),(8,([5],[])),(9,([64,65],[])),(10,([66],[])),(11,([67],[])),(12,([62,68],[]))])]
def an_k88:Ann:=(.seq .u (.seq .u (.seq (.seq .u (.block (.loop ⟨[(2,.c (.pb 0 1 0)),(3,.c (.pb 1 1 0)),(5,.c (.int .i64))],[.box (.sv false .poly),.box (.sv false .poly)]⟩ .u))) .u)))
@[reducible] def lk_k88 : LitK := ⟨[]⟩
theorem run_k88 (A:Alg) (c_k112:Ct A.toCar s_k112) (x:Tup A.toCar s_k88.inp): @runX lk_k88 A X (ofL A.toCar [(99,⟨s_k112,c_k112⟩)]) (ordL ord_k88) (@chkL lk_k88 E ord_k88) an_k88 s_k88 Tryz.f72 (Tryz.f72.body.getD .skip) x=F_k88 A c_k112.pre c_k112.fn x:=by kernel_rfl
def ord_k122:List (Nat×List DEnt):=[]
def an_k122:Ann:= .u
@[reducible] def lk_k122 : LitK := ⟨[]⟩
theorem run_k122 (A:Alg) (c_k88:Ct A.toCar s_k88) (x:Tup A.toCar s_k122.inp): @runX lk_k122 A X (ofL A.toCar [(72,⟨s_k88,c_k88⟩)]) (ordL ord_k122) (@chkL lk_k122 E ord_k122) an_k122 s_k122 Tryz.f67 (Tryz.f67.body.getD .skip) x=F_k122 A c_k88.pre c_k88.fn x:=by kernel_rfl
def ord_k93:List (Nat×List DEnt):=[(11,[(0,([1],[])),(1,([29],[])),(2,([4],[])),(3,([30,31],[])),(4,([32],[])),(5,([1],[])),(6,([34],[])),(7,([3],[])),(8,([35,36],[])),(9,([37],[])),(10,([33,38],[]))])]
def an_k93:Ann:=(.seq .u (.seq .u (.seq (.seq .u (.block (.loop ⟨[(1,.c (.pb 0 1 0)),(3,.c (.int .i64))],[.box (.sv false .tab)]⟩ (.seq .u (.seq (.block (.seq .u (.seq .u (.block (.loop ⟨[(1,.c (.pb 0 1 0)),(3,.c (.int .i64)),(4,.c (.int .i64))],[.box (.sv false .tab)]⟩ .u))))) .u))))) .u)))
@[reducible] def lk_k93 : LitK := ⟨[]⟩
theorem run_k93 (A:Alg) (c_k114:Ct A.toCar s_k114) (c_k122:Ct A.toCar s_k122) (x:Tup A.toCar s_k93.inp): @runX lk_k93 A X (ofL A.toCar [(66,⟨s_k114,c_k114⟩),(67,⟨s_k122,c_k122⟩)]) (ordL ord_k93) (@chkL lk_k93 E ord_k93) an_k93 s_k93 Tryz.f41 (Tryz.f41.body.getD .skip) x=F_k93 A c_k114.pre c_k114.fn c_k122.pre c_k122.fn x:=by kernel_rfl
def ord_k123:List (Nat×List DEnt):=[]
def an_k123:Ann:= .u
@[reducible] def lk_k123 : LitK := ⟨[]⟩
theorem run_k123 (A:Alg) (c_k87:Ct A.toCar s_k87) (c_k90:Ct A.toCar s_k90) (x:Tup A.toCar s_k123.inp): @runX lk_k123 A X (ofL A.toCar [(68,⟨s_k87,c_k87⟩),(69,⟨s_k90,c_k90⟩)]) (ordL ord_k123) (@chkL lk_k123 E ord_k123) an_k123 s_k123 Tryz.f43 (Tryz.f43.body.getD .skip) x=F_k123 A c_k87.pre c_k87.fn c_k90.pre c_k90.fn x:=by kernel_rfl
def ord_k97:List (Nat×List DEnt):=[]
def an_k97:Ann:=(.seq .u (.seq .u (.seq (.seq .u (.cut ⟨[(3,.c (.int .i64))],[]⟩ (.cond .u .u))) .u)))
@[reducible] def lk_k97 : LitK := ⟨[]⟩
theorem run_k97 (A:Alg) (x:Tup A.toCar s_k97.inp): @runX lk_k97 A X (ofL A.toCar []) (ordL ord_k97) (@chkL lk_k97 E ord_k97) an_k97 s_k97 Tryz.f39 (Tryz.f39.body.getD .skip) x=F_k97 A x:=by kernel_rfl
def ord_k113:List (Nat×List DEnt):=[(6,[(0,([3],[])),(1,([17],[])),(2,([0],[])),(3,([7],[])),(4,([19,20],[])),(5,([21],[])),(6,([22],[])),(7,([18,23],[])),(8,([24],[]))]),(12,[(0,([0],[])),(1,([7],[])),(2,([37,38],[])),(3,([39],[])),(4,([40],[])),(5,([3],[])),(6,([42],[])),(7,([41,43],[])),(8,([44],[])),(9,([45],[]))])]
def an_k113:Ann:=(.seq .u (.seq .u (.seq .u (.seq (.seq .u (.block (.loop ⟨[(0,.c (.rows false .mono)),(3,.c (.pb 0 2 0)),(5,.c (.own 1)),(6,.c (.bool)),(7,.c (.int .i64))],[.box (.sv false .mono),.rows false .mono]⟩ (.seq .u (.seq (.block (.seq .u (.seq (.seq .u (.cut ⟨[(0,.c (.rows false .mono)),(3,.c (.pb 0 2 0)),(5,.c (.own 1)),(6,.c (.bool)),(7,.c (.int .i64)),(8,.c (.int .i64))],[.box (.sv false .mono),.rows false .mono]⟩ (.cond .u .u))) (.seq .u (.cut ⟨[(0,.c (.rows false .mono)),(3,.c (.pb 0 2 0)),(5,.c (.own 1)),(6,.c (.bool)),(7,.c (.int .i64))],[.box (.sv false .mono),.rows false .mono]⟩ (.cond (.seq .u (.seq .u (.seq .u (.cut ⟨[(0,.c (.rows false .mono)),(3,.c (.pb 0 2 0)),(5,.c (.own 1)),(6,.c (.bool)),(7,.c (.int .i64))],[.box (.sv false .mono),.rows false .mono]⟩ (.cond .u .u))))) .u)))))) .u))))) (.seq (.seq .u (.cut ⟨[(5,.c (.own 0))],[.rows false .mono]⟩ (.cond .u .u))) .u)))))
@[reducible] def lk_k113 : LitK := ⟨[]⟩
theorem run_k113 (A:Alg) (c_k112:Ct A.toCar s_k112) (c_k97:Ct A.toCar s_k97) (x:Tup A.toCar s_k113.inp): @runX lk_k113 A X (ofL A.toCar [(99,⟨s_k112,c_k112⟩),(39,⟨s_k97,c_k97⟩)]) (ordL ord_k113) (@chkL lk_k113 E ord_k113) an_k113 s_k113 Tryz.f82 (Tryz.f82.body.getD .skip) x=F_k113 A c_k112.pre c_k112.fn c_k97.pre c_k97.fn x:=by kernel_rfl
def ord_k110:List (Nat×List DEnt):=[(6,[(0,([6],[])),(1,([0],[])),(2,([16],[])),(3,([15,17],[])),(4,([18],[])),(5,([0,19],[])),(6,([6,19],[])),(7,([19,20,21],[])),(8,([19,22],[])),(9,([1,19],[])),(10,([7,19],[])),(11,([19,24,25],[])),(12,([19,26],[])),(13,([19,23,27],[])),(14,([19,28],[]))])]
def an_k110:Ann:=(.seq .u (.seq .u (.seq .u (.seq (.seq .u (.block (.loop ⟨[(0,.c (.rows false .i64)),(1,.c (.rows false .i64)),(5,.c (.own 0)),(6,.c (.int .i64)),(7,.c (.int .i64))],[.rows true .i64]⟩ (.seq .u (.seq (.block (.seq (.block (.loop ⟨[(0,.c (.rows false .i64)),(1,.c (.rows false .i64)),(5,.c (.own 0)),(6,.c (.int .i64)),(7,.c (.int .i64))],[.rows true .i64]⟩ .u)) .u)) .u))))) .u))))
@[reducible] def lk_k110 : LitK := ⟨[]⟩
theorem run_k110 (A:Alg) (x:Tup A.toCar s_k110.inp): @runX lk_k110 A X (ofL A.toCar []) (ordL ord_k110) (@chkL lk_k110 E ord_k110) an_k110 s_k110 Tryz.f83 (Tryz.f83.body.getD .skip) x=F_k110 A x:=by kernel_rfl
def ord_k108:List (Nat×List DEnt):=[(5,[(0,([3],[])),(1,([12],[])),(2,([0],[])),(3,([4],[])),(4,([14,15],[])),(5,([16],[])),(6,([17],[])),(7,([],[])),(8,([0],[])),(9,([4],[])),(10,([20,21],[])),(11,([22],[])),(12,([23],[])),(13,([19,24],[1,6])),(14,([18,25],[])),(15,([26],[1])),(16,([13,27],[])),(17,([3],[])),(18,([28,29],[]))])]
def an_k108:Ann:=(.seq .u (.seq .u (.seq (.seq .u (.block (.loop ⟨[(0,.c (.rows false .mono)),(2,.c (.pb 0 1 0)),(3,.c (.pb 1 1 0)),(4,.c (.int .i64))],[.box (.agg [.nil]),.box (.agg [.own 2]),.rows true .mono]⟩ .u))) .u)))
@[reducible] def lk_k108 : LitK := ⟨[26]⟩
theorem run_k108 (A:Alg) (x:Tup A.toCar s_k108.inp): @runX lk_k108 A X (ofL A.toCar []) (ordL ord_k108) (@chkL lk_k108 E ord_k108) an_k108 s_k108 Tryz.f102 (Tryz.f102.body.getD .skip) x=F_k108 A x:=by kernel_rfl
def ord_k109:List (Nat×List DEnt):=[]
def an_k109:Ann:=(.seq .u (.seq .u (.seq (.seq .u (.block (.loop ⟨[(0,.c (.rows false .mono)),(2,.c (.pb 0 1 0)),(4,.c (.int .i64))],[.box (.agg [.nil])]⟩ .u))) .u)))
@[reducible] def lk_k109 : LitK := ⟨[]⟩
theorem run_k109 (A:Alg) (c_k108:Ct A.toCar s_k108) (x:Tup A.toCar s_k109.inp): @runX lk_k109 A X (ofL A.toCar [(102,⟨s_k108,c_k108⟩)]) (ordL ord_k109) (@chkL lk_k109 E ord_k109) an_k109 s_k109 Tryz.f84 (Tryz.f84.body.getD .skip) x=F_k109 A c_k108.pre c_k108.fn x:=by kernel_rfl
def ord_k85:List (Nat×List DEnt):=[(10,[(0,([2],[])),(1,([34],[])),(2,([7],[])),(3,([35,36],[])),(4,([37],[])),(5,([38],[])),(6,([3],[])),(7,([40],[])),(8,([8],[])),(9,([41,42],[])),(10,([43],[])),(11,([44],[])),(12,([39,45],[])),(13,([46],[])),(14,([47],[]))]),(12,[(0,([6],[])),(1,([9],[])),(2,([2],[])),(3,([52],[])),(4,([7],[])),(5,([53,54],[])),(6,([55],[])),(7,([56],[])),(8,([3],[])),(9,([58],[])),(10,([8],[])),(11,([59,60],[])),(12,([61],[])),(13,([62],[])),(14,([57,63],[])),(15,([51,64],[])),(16,([50,65],[])),(17,([66],[]))])]
def an_k85:Ann:=(.seq .u (.seq .u (.seq .u (.seq (.seq .u (.block (.loop ⟨[(2,.c (.pb 0 1 0)),(3,.c (.pb 1 1 0)),(4,.c (.pb 2 1 0)),(6,.c (.own 3)),(7,.c (.int .i64))],[.box (.sv false .poly),.box (.sv false .poly),.box (.agg [.nil]),.rows false .mono]⟩ (.seq .u (.seq (.block (.seq .u (.block (.loop ⟨[(2,.c (.pb 0 1 0)),(3,.c (.pb 1 1 0)),(4,.c (.pb 2 1 0)),(6,.c (.own 3)),(7,.c (.int .i64)),(8,.c (.int .i64))],[.box (.sv false .poly),.box (.sv false .poly),.box (.agg [.nil]),.rows false .mono]⟩ (.seq .u (.seq (.block (.seq .u (.seq .u (.cut ⟨[(2,.c (.pb 0 1 0)),(3,.c (.pb 1 1 0)),(4,.c (.pb 2 1 0)),(6,.c (.own 3)),(7,.c (.int .i64)),(8,.c (.int .i64))],[.box (.sv false .poly),.box (.sv false .poly),.box (.agg [.nil]),.rows false .mono]⟩ (.cond .u .u))))) .u)))))) .u))))) .u))))
@[reducible] def lk_k85 : LitK := ⟨[]⟩
theorem run_k85 (A:Alg) (c_k87:Ct A.toCar s_k87) (c_k97:Ct A.toCar s_k97) (c_k113:Ct A.toCar s_k113) (c_k110:Ct A.toCar s_k110) (c_k109:Ct A.toCar s_k109) (x:Tup A.toCar s_k85.inp): @runX lk_k85 A X (ofL A.toCar [(68,⟨s_k87,c_k87⟩),(39,⟨s_k97,c_k97⟩),(82,⟨s_k113,c_k113⟩),(83,⟨s_k110,c_k110⟩),(84,⟨s_k109,c_k109⟩)]) (ordL ord_k85) (@chkL lk_k85 E ord_k85) an_k85 s_k85 Tryz.f53 (Tryz.f53.body.getD .skip) x=F_k85 A c_k87.pre c_k87.fn c_k97.pre c_k97.fn c_k113.pre c_k113.fn c_k110.pre c_k110.fn c_k109.pre c_k109.fn x:=by kernel_rfl
def ord_k82:List (Nat×List DEnt):=[]
def an_k82:Ann:=(.seq .u (.seq .u (.seq .u (.seq (.seq .u (.block (.loop ⟨[(3,.c (.pb 0 1 0)),(4,.c (.pb 1 1 0)),(6,.c (.rows false .mono)),(7,.c (.int .i64))],[.box (.sv false .poly),.box (.agg [.nil])]⟩ .u))) .u))))
@[reducible] def lk_k82 : LitK := ⟨[]⟩
theorem run_k82 (A:Alg) (c_k87:Ct A.toCar s_k87) (c_k113:Ct A.toCar s_k113) (c_k109:Ct A.toCar s_k109) (x:Tup A.toCar s_k82.inp): @runX lk_k82 A X (ofL A.toCar [(68,⟨s_k87,c_k87⟩),(82,⟨s_k113,c_k113⟩),(84,⟨s_k109,c_k109⟩)]) (ordL ord_k82) (@chkL lk_k82 E ord_k82) an_k82 s_k82 Tryz.f54 (Tryz.f54.body.getD .skip) x=F_k82 A c_k87.pre c_k87.fn c_k113.pre c_k113.fn c_k109.pre c_k109.fn x:=by kernel_rfl
def ord_k96:List (Nat×List DEnt):=[]
def an_k96:Ann:= .u
@[reducible] def lk_k96 : LitK := ⟨[]⟩
theorem run_k96 (A:Alg) (x:Tup A.toCar s_k96.inp): @runX lk_k96 A X (ofL A.toCar []) (ordL ord_k96) (@chkL lk_k96 E ord_k96) an_k96 s_k96 Tryz.f12 (Tryz.f12.body.getD .skip) x=F_k96 A x:=by kernel_rfl
def ord_k89:List (Nat×List DEnt):=[]
def an_k89:Ann:=(.seq .u (.seq .u (.seq .u (.seq (.seq .u (.block (.loop ⟨[(1,.c (.int .i64)),(2,.c (.pb 0 1 0)),(4,.c (.pb 1 1 0)),(5,.c (.own 2)),(6,.c (.int .i64))],[.box (.sv false .poly),.box (.agg [.nil]),.rows false .mono]⟩ (.seq .u (.seq (.block (.seq .u (.seq .u (.cut ⟨[(1,.c (.int .i64)),(2,.c (.pb 0 1 0)),(4,.c (.pb 1 1 0)),(5,.c (.own 2)),(6,.c (.int .i64))],[.box (.sv false .poly),.box (.agg [.nil]),.rows false .mono]⟩ (.cond .u .u))))) .u))))) .u))))
@[reducible] def lk_k89 : LitK := ⟨[]⟩
theorem run_k89 (A:Alg) (c_k87:Ct A.toCar s_k87) (c_k97:Ct A.toCar s_k97) (c_k108:Ct A.toCar s_k108) (c_k96:Ct A.toCar s_k96) (x:Tup A.toCar s_k89.inp): @runX lk_k89 A X (ofL A.toCar [(68,⟨s_k87,c_k87⟩),(39,⟨s_k97,c_k97⟩),(102,⟨s_k108,c_k108⟩),(12,⟨s_k96,c_k96⟩)]) (ordL ord_k89) (@chkL lk_k89 E ord_k89) an_k89 s_k89 Tryz.f100 (Tryz.f100.body.getD .skip) x=F_k89 A c_k87.pre c_k87.fn c_k97.pre c_k97.fn c_k108.pre c_k108.fn c_k96.pre c_k96.fn x:=by kernel_rfl
def ord_k121:List (Nat×List DEnt):=[(5,[(0,([4],[])),(1,([5],[])),(2,([19],[0])),(3,([18,20],[])),(4,([21],[])),(5,([21],[])),(6,([6,22],[])),(7,([23],[]))])]
def an_k121:Ann:= .u
@[reducible] def lk_k121 : LitK := ⟨[]⟩
theorem run_k121 (A:Alg) (c_k85:Ct A.toCar s_k85) (c_k82:Ct A.toCar s_k82) (c_k89:Ct A.toCar s_k89) (x:Tup A.toCar s_k121.inp): @runX lk_k121 A X (ofL A.toCar [(53,⟨s_k85,c_k85⟩),(54,⟨s_k82,c_k82⟩),(100,⟨s_k89,c_k89⟩)]) (ordL ord_k121) (@chkL lk_k121 E ord_k121) an_k121 s_k121 Tryz.f70 (Tryz.f70.body.getD .skip) x=F_k121 A c_k85.pre c_k85.fn c_k82.pre c_k82.fn c_k89.pre c_k89.fn x:=by kernel_rfl
def ord_k95:List (Nat×List DEnt):=[]
def an_k95:Ann:= .u
@[reducible] def lk_k95 : LitK := ⟨[]⟩
theorem run_k95 (A:Alg) (c_k97:Ct A.toCar s_k97) (c_k96:Ct A.toCar s_k96) (x:Tup A.toCar s_k95.inp): @runX lk_k95 A X (ofL A.toCar [(39,⟨s_k97,c_k97⟩),(12,⟨s_k96,c_k96⟩)]) (ordL ord_k95) (@chkL lk_k95 E ord_k95) an_k95 s_k95 Tryz.f14 (Tryz.f14.body.getD .skip) x=F_k95 A c_k97.pre c_k97.fn c_k96.pre c_k96.fn x:=by kernel_rfl
def ord_k84:List (Nat×List DEnt):=[]
def an_k84:Ann:= .u
@[reducible] def lk_k84 : LitK := ⟨[]⟩
theorem run_k84 (A:Alg) (c_k98:Ct A.toCar s_k98) (x:Tup A.toCar s_k84.inp): @runX lk_k84 A X (ofL A.toCar [(42,⟨s_k98,c_k98⟩)]) (ordL ord_k84) (@chkL lk_k84 E ord_k84) an_k84 s_k84 Tryz.f27 (Tryz.f27.body.getD .skip) x=F_k84 A c_k98.pre c_k98.fn x:=by kernel_rfl
def ord_k86:List (Nat×List DEnt):=[]
def an_k86:Ann:= .u
@[reducible] def lk_k86 : LitK := ⟨[]⟩
theorem run_k86 (A:Alg) (c_k87:Ct A.toCar s_k87) (x:Tup A.toCar s_k86.inp): @runX lk_k86 A X (ofL A.toCar [(68,⟨s_k87,c_k87⟩)]) (ordL ord_k86) (@chkL lk_k86 E ord_k86) an_k86 s_k86 Tryz.f101 (Tryz.f101.body.getD .skip) x=F_k86 A c_k87.pre c_k87.fn x:=by kernel_rfl
def ord_k119:List (Nat×List DEnt):=[]
def an_k119:Ann:= .u
@[reducible] def lk_k119 : LitK := ⟨[]⟩
theorem run_k119 (A:Alg) (c_k108:Ct A.toCar s_k108) (x:Tup A.toCar s_k119.inp): @runX lk_k119 A X (ofL A.toCar [(102,⟨s_k108,c_k108⟩)]) (ordL ord_k119) (@chkL lk_k119 E ord_k119) an_k119 s_k119 Tryz.f103 (Tryz.f103.body.getD .skip) x=F_k119 A c_k108.pre c_k108.fn x:=by kernel_rfl
def ord_k116:List (Nat×List DEnt):=[]
def an_k116:Ann:= .u
@[reducible] def lk_k116 : LitK := ⟨[]⟩
theorem run_k116 (A:Alg) (c_k88:Ct A.toCar s_k88) (c_k108:Ct A.toCar s_k108) (c_k95:Ct A.toCar s_k95) (c_k84:Ct A.toCar s_k84) (c_k86:Ct A.toCar s_k86) (c_k119:Ct A.toCar s_k119) (x:Tup A.toCar s_k116.inp): @runX lk_k116 A X (ofL A.toCar [(72,⟨s_k88,c_k88⟩),(102,⟨s_k108,c_k108⟩),(14,⟨s_k95,c_k95⟩),(27,⟨s_k84,c_k84⟩),(101,⟨s_k86,c_k86⟩),(103,⟨s_k119,c_k119⟩)]) (ordL ord_k116) (@chkL lk_k116 E ord_k116) an_k116 s_k116 Tryz.f71 (Tryz.f71.body.getD .skip) x=F_k116 A c_k88.pre c_k88.fn c_k108.pre c_k108.fn c_k95.pre c_k95.fn c_k84.pre c_k84.fn c_k86.pre c_k86.fn c_k119.pre c_k119.fn x:=by kernel_rfl
def ord_k124:List (Nat×List DEnt):=[(1,[(0,([1],[])),(1,([3],[])),(2,([1],[])),(3,([5],[])),(4,([1],[])),(5,([7],[])),(6,([8],[])),(8,([1],[])),(9,([11],[])),(10,([12],[])),(7,([9],[1,3,10])),(11,([13],[1,3])),(12,([4,6,10,14],[])),(13,([2,15],[]))])]
def an_k124:Ann:= .u
@[reducible] def lk_k124 : LitK := ⟨[]⟩
theorem run_k124 (A:Alg) (c_k108:Ct A.toCar s_k108) (x:Tup A.toCar s_k124.inp): @runX lk_k124 A X (ofL A.toCar [(102,⟨s_k108,c_k108⟩)]) (ordL ord_k124) (@chkL lk_k124 E ord_k124) an_k124 s_k124 Tryz.f74 (Tryz.f74.body.getD .skip) x=F_k124 A c_k108.pre c_k108.fn x:=by kernel_rfl
def ord_k120:List (Nat×List DEnt):=[(6,[(0,([2],[])),(1,([21],[])),(2,([6],[])),(3,([22,23],[])),(4,([24],[])),(5,([3],[])),(6,([25,26],[]))]),(10,[(0,([2],[])),(1,([35],[])),(2,([3],[])),(3,([37],[1])),(4,([38],[1])),(5,([36,39],[])),(6,([2],[])),(7,([40,41],[]))]),(11,[(0,([2],[])),(1,([2],[])),(2,([43],[])),(3,([44],[])),(4,([45],[])),(5,([4,42],[2])),(6,([46],[]))])]
def an_k120:Ann:=(.seq .u (.seq .u (.seq (.seq .u (.block (.loop ⟨[(2,.c (.pb 1 1 0)),(3,.c (.pb 2 4 0)),(4,.c (.pb 3 1 0)),(6,.c (.int .i64))],[.rows true .atom,.box (.agg [.own 0]),.box (.sv false .atom),.box (.agg [.nil])]⟩ .u))) .u)))
@[reducible] def lk_k120 : LitK := ⟨[38]⟩
theorem run_k120 (A:Alg) (c_k114:Ct A.toCar s_k114) (c_k122:Ct A.toCar s_k122) (c_k124:Ct A.toCar s_k124) (x:Tup A.toCar s_k120.inp): @runX lk_k120 A X (ofL A.toCar [(66,⟨s_k114,c_k114⟩),(67,⟨s_k122,c_k122⟩),(74,⟨s_k124,c_k124⟩)]) (ordL ord_k120) (@chkL lk_k120 E ord_k120) an_k120 s_k120 Tryz.f73 (Tryz.f73.body.getD .skip) x=F_k120 A c_k114.pre c_k114.fn c_k122.pre c_k122.fn c_k124.pre c_k124.fn x:=by kernel_rfl
def ord_k118:List (Nat×List DEnt):=[(5,[(0,([4],[])),(1,([10],[])),(2,([8,36],[1])),(3,([9,37],[]))]),(12,[(0,([13],[])),(1,([14],[])),(2,([65],[0])),(3,([8,64],[])),(4,([9,66],[]))])]
def an_k118:Ann:=(.seq .u (.seq .u (.seq (.seq .u (.cut ⟨[(1,.c (.int .i64)),(4,.c (.pb 1 1 0)),(6,.c (.pb 2 1 0)),(7,.c (.pb 3 1 0)),(8,.c (.pb 4 1 0)),(9,.c (.pb 5 1 0)),(10,.c (.pb 6 1 0)),(11,.c (.bool))],[.rows true .atom,.box (.agg [.own 0]),.box (.sv false .poly),.box (.sv false .poly),.box (.agg [.nil]),.box (.agg [.nil]),.box (.agg [.own 7]),.rows true .mono]⟩ (.cond .u .u))) (.seq .u (.seq .u (.seq (.seq .u (.cut ⟨[(4,.c (.pb 1 1 0)),(8,.c (.pb 2 1 0)),(9,.c (.pb 3 1 0)),(12,.c (.pb 4 4 0))],[.rows true .atom,.box (.agg [.own 0]),.box (.agg [.nil]),.box (.agg [.nil]),.box (.agg [.int .i64,.int .i64,.rows false .mono,.rows false .mono])]⟩ (.cond .u .u))) .u))))))
@[reducible] def lk_k118 : LitK := ⟨[]⟩
theorem run_k118 (A:Alg) (c_k83:Ct A.toCar s_k83) (c_k88:Ct A.toCar s_k88) (c_k121:Ct A.toCar s_k121) (c_k116:Ct A.toCar s_k116) (c_k120:Ct A.toCar s_k120) (x:Tup A.toCar s_k118.inp): @runX lk_k118 A X (ofL A.toCar [(29,⟨s_k83,c_k83⟩),(72,⟨s_k88,c_k88⟩),(70,⟨s_k121,c_k121⟩),(71,⟨s_k116,c_k116⟩),(73,⟨s_k120,c_k120⟩)]) (ordL ord_k118) (@chkL lk_k118 E ord_k118) an_k118 s_k118 Tryz.f44 (Tryz.f44.body.getD .skip) x=F_k118 A c_k83.pre c_k83.fn c_k88.pre c_k88.fn c_k121.pre c_k121.fn c_k116.pre c_k116.fn c_k120.pre c_k120.fn x:=by kernel_rfl
def ord_k117:List (Nat×List DEnt):=[(5,[(0,([3],[])),(1,([13],[])),(2,([1],[])),(3,([15],[])),(4,([4],[])),(5,([16,17],[])),(6,([18],[])),(7,([19],[1])),(8,([20],[1])),(9,([14,21],[])),(10,([3],[])),(11,([22,23],[]))])]
def an_k117:Ann:=(.seq .u (.seq .u (.seq (.seq .u (.block (.loop ⟨[(1,.c (.pb 0 1 0)),(2,.c (.pb 1 1 0)),(3,.c (.pb 2 1 0)),(4,.c (.int .i64))],[.box (.sv false .tab),.box (.agg [.nil]),.box (.agg [.own 3]),.rows true .atom]⟩ .u))) .u)))
@[reducible] def lk_k117 : LitK := ⟨[20]⟩
theorem run_k117 (A:Alg) (c_k124:Ct A.toCar s_k124) (x:Tup A.toCar s_k117.inp): @runX lk_k117 A X (ofL A.toCar [(74,⟨s_k124,c_k124⟩)]) (ordL ord_k117) (@chkL lk_k117 E ord_k117) an_k117 s_k117 Tryz.f45 (Tryz.f45.body.getD .skip) x=F_k117 A c_k124.pre c_k124.fn x:=by kernel_rfl
def ord_k92:List (Nat×List DEnt):=[(3,[(0,([4],[])),(2,([1],[])),(3,([6],[])),(4,([7],[])),(1,([29],[3,4])),(5,([30,31,32,33],[])),(6,([34],[])),(7,([34],[])),(8,([8,35],[])),(9,([9,36],[]))])]
def an_k92:Ann:= .u
@[reducible] def lk_k92 : LitK := ⟨[]⟩
theorem run_k92 (A:Alg) (c_k98:Ct A.toCar s_k98) (c_k93:Ct A.toCar s_k93) (c_k123:Ct A.toCar s_k123) (c_k118:Ct A.toCar s_k118) (c_k117:Ct A.toCar s_k117) (x:Tup A.toCar s_k92.inp): @runX lk_k92 A X (ofL A.toCar [(42,⟨s_k98,c_k98⟩),(41,⟨s_k93,c_k93⟩),(43,⟨s_k123,c_k123⟩),(44,⟨s_k118,c_k118⟩),(45,⟨s_k117,c_k117⟩)]) (ordL ord_k92) (@chkL lk_k92 E ord_k92) an_k92 s_k92 Tryz.f16 (Tryz.f16.body.getD .skip) x=F_k92 A c_k98.pre c_k98.fn c_k93.pre c_k93.fn c_k123.pre c_k123.fn c_k118.pre c_k118.fn c_k117.pre c_k117.fn x:=by kernel_rfl
end Go.TX.Seat
namespace Go.TX.Seat
open Go Go.AE Go.TX Go.TX.F Go.Proofs
set_option maxRecDepth 100000
def ord_k102:List (Nat×List DEnt):=[]
def an_k102:Ann:= .u
@[reducible] def lk_k102 : LitK := ⟨[]⟩
theorem run_k102 (A:Alg) (c_k101:Ct A.toCar s_k101) (x:Tup A.toCar s_k102.inp): @runX lk_k102 A X (ofL A.toCar [(24,⟨s_k101,c_k101⟩)]) (ordL ord_k102) (@chkL lk_k102 E ord_k102) an_k102 s_k102 Tryz.f28 (Tryz.f28.body.getD .skip) x=F_k102 A c_k101.pre c_k101.fn x:=by kernel_rfl
def ord_k105:List (Nat×List DEnt):=[(9,[(0,([7],[])),(1,([0],[])),(2,([1],[])),(3,([49,50],[0])),(4,([51],[0])),(5,([48,52],[])),(6,([53],[])),(7,([47],[])),(8,([47],[])),(9,([],[])),(10,([9,54],[])),(11,([55],[]))])]
def an_k105:Ann:=(.seq .u (.seq .u (.seq (.seq .u (.block (.loop ⟨[(0,.c (.pb 0 2 0)),(1,.c (.int .i64)),(4,.c (.pb 1 1 0)),(5,.c (.pb 2 1 0)),(6,.c (.int .i64))],[.box (.agg [.rows true .u8,.int .i64]),.box (.agg [.nil]),.box (.agg [.own 3]),.rows true .mono]⟩ (.seq .u (.seq (.block (.seq .u (.seq (.seq .u (.block (.loop ⟨[(0,.c (.pb 0 2 0)),(1,.c (.int .i64)),(4,.c (.pb 1 1 0)),(5,.c (.pb 2 1 0)),(6,.c (.int .i64)),(7,.c (.pb 3 1 0)),(8,.c (.int .i64))],[.box (.agg [.rows true .u8,.int .i64]),.box (.agg [.nil]),.box (.agg [.own 4]),.box (.agg [.own 5]),.rows true .mono,.rows true .mono]⟩ (.seq .u (.seq (.block (.seq .u (.seq .u (.cut ⟨[(0,.c (.pb 0 2 0)),(1,.c (.int .i64)),(4,.c (.pb 1 1 0)),(5,.c (.pb 2 1 0)),(6,.c (.int .i64)),(7,.c (.pb 3 1 0)),(8,.c (.int .i64))],[.box (.agg [.rows true .u8,.int .i64]),.box (.agg [.nil]),.box (.agg [.own 4]),.box (.agg [.own 5]),.rows true .mono,.rows true .mono]⟩ (.cond .u .u))))) .u))))) (.seq .u (.seq .u (.cut ⟨[(0,.c (.pb 0 2 0)),(1,.c (.int .i64)),(4,.c (.pb 1 1 0)),(5,.c (.pb 2 1 0)),(6,.c (.int .i64))],[.box (.agg [.rows true .u8,.int .i64]),.box (.agg [.nil]),.box (.agg [.own 3]),.rows true .mono]⟩ (.cond .u .u))))))) .u))))) .u)))
@[reducible] def lk_k105 : LitK := ⟨[]⟩
theorem run_k105 (A:Alg) (c_k101:Ct A.toCar s_k101) (c_k83:Ct A.toCar s_k83) (c_k85:Ct A.toCar s_k85) (c_k82:Ct A.toCar s_k82) (c_k84:Ct A.toCar s_k84) (c_k102:Ct A.toCar s_k102) (x:Tup A.toCar s_k105.inp): @runX lk_k105 A X (ofL A.toCar [(24,⟨s_k101,c_k101⟩),(29,⟨s_k83,c_k83⟩),(53,⟨s_k85,c_k85⟩),(54,⟨s_k82,c_k82⟩),(27,⟨s_k84,c_k84⟩),(28,⟨s_k102,c_k102⟩)]) (ordL ord_k105) (@chkL lk_k105 E ord_k105) an_k105 s_k105 Tryz.f26 (Tryz.f26.body.getD .skip) x=F_k105 A c_k101.pre c_k101.fn c_k83.pre c_k83.fn c_k85.pre c_k85.fn c_k82.pre c_k82.fn c_k84.pre c_k84.fn c_k102.pre c_k102.fn x:=by kernel_rfl
def ord_k91:List (Nat×List DEnt):=[]
def an_k91:Ann:=(.seq .u (.seq .u (.seq .u (.seq (.seq .u (.block (.loop ⟨[(0,.c (.pb 0 1 0)),(2,.c (.pb 1 1 0)),(3,.c (.own 2)),(4,.c (.int .i64))],[.box (.agg [.nil]),.box (.agg [.own 3]),.rows true .poly,.rows true .atom]⟩ .u))) .u))))
@[reducible] def lk_k91 : LitK := ⟨[]⟩
theorem run_k91 (A:Alg) (c_k83:Ct A.toCar s_k83) (x:Tup A.toCar s_k91.inp): @runX lk_k91 A X (ofL A.toCar [(29,⟨s_k83,c_k83⟩)]) (ordL ord_k91) (@chkL lk_k91 E ord_k91) an_k91 s_k91 Tryz.f80 (Tryz.f80.body.getD .skip) x=F_k91 A c_k83.pre c_k83.fn x:=by kernel_rfl
def ord_k94:List (Nat×List DEnt):=[(3,[(0,([2],[])),(2,([3],[])),(1,([10],[2])),(3,([11,12],[])),(4,([13],[])),(5,([13],[])),(6,([4,14],[])),(7,([15],[]))])]
def an_k94:Ann:= .u
@[reducible] def lk_k94 : LitK := ⟨[]⟩
theorem run_k94 (A:Alg) (c_k93:Ct A.toCar s_k93) (c_k120:Ct A.toCar s_k120) (c_k117:Ct A.toCar s_k117) (x:Tup A.toCar s_k94.inp): @runX lk_k94 A X (ofL A.toCar [(41,⟨s_k93,c_k93⟩),(73,⟨s_k120,c_k120⟩),(45,⟨s_k117,c_k117⟩)]) (ordL ord_k94) (@chkL lk_k94 E ord_k94) an_k94 s_k94 Tryz.f81 (Tryz.f81.body.getD .skip) x=F_k94 A c_k93.pre c_k93.fn c_k120.pre c_k120.fn c_k117.pre c_k117.fn x:=by kernel_rfl
def ord_k106:List (Nat×List DEnt):=[(6,[(0,([3],[])),(1,([0],[])),(4,([0],[])),(5,([6],[])),(7,([0],[])),(8,([6],[])),(2,([26],[0])),(3,([27],[])),(6,([29,30],[0])),(9,([32,33],[0])),(10,([25,28,31,34],[])),(11,([35],[])),(12,([24],[])),(13,([24],[])),(14,([],[])),(15,([],[])),(16,([7,36],[])),(17,([8,37],[]))]),(9,[(0,([3],[])),(1,([],[])),(2,([0],[])),(6,([0],[])),(3,([45],[0])),(4,([44,46],[])),(5,([47],[])),(7,([49],[0,5])),(8,([48,50],[])),(9,([43,51],[])),(10,([52],[])),(11,([42],[])),(12,([42],[])),(13,([],[])),(14,([9,53],[])),(15,([54],[]))])]
def an_k106:Ann:=(.seq .u (.seq .u (.seq (.seq .u (.block (.loop ⟨[(0,.c (.pb 0 2 0)),(2,.c (.pb 1 1 0)),(3,.c (.pb 2 1 0)),(5,.c (.int .i64))],[.box (.agg [.rows true .u8,.int .i64]),.box (.agg [.nil]),.box (.agg [.own 3]),.rows true .atom]⟩ .u))) (.seq (.seq .u (.cut ⟨[(2,.c (.pb 1 1 0)),(3,.c (.pb 2 1 0))],[.box (.agg [.rows true .u8,.int .i64]),.box (.agg [.nil]),.box (.agg [.own 3]),.rows true .atom]⟩ (.cond .u .u))) .u))))
@[reducible] def lk_k106 : LitK := ⟨[]⟩
theorem run_k106 (A:Alg) (c_k101:Ct A.toCar s_k101) (c_k92:Ct A.toCar s_k92) (c_k105:Ct A.toCar s_k105) (c_k91:Ct A.toCar s_k91) (c_k94:Ct A.toCar s_k94) (x:Tup A.toCar s_k106.inp): @runX lk_k106 A X (ofL A.toCar [(24,⟨s_k101,c_k101⟩),(16,⟨s_k92,c_k92⟩),(26,⟨s_k105,c_k105⟩),(80,⟨s_k91,c_k91⟩),(81,⟨s_k94,c_k94⟩)]) (ordL ord_k106) (@chkL lk_k106 E ord_k106) an_k106 s_k106 Tryz.f52 (Tryz.f52.body.getD .skip) x=F_k106 A c_k101.pre c_k101.fn c_k92.pre c_k92.fn c_k105.pre c_k105.fn c_k91.pre c_k91.fn c_k94.pre c_k94.fn x:=by kernel_rfl
def ord_k107:List (Nat×List DEnt):=[(6,[(0,([5],[])),(1,([21],[])),(2,([5],[])),(3,([23],[])),(4,([24],[])),(5,([25],[])),(6,([26],[1])),(7,([22,27],[])),(8,([5],[])),(9,([28,29],[]))]),(8,[(0,([5],[])),(1,([32],[])),(2,([],[1])),(3,([34],[])),(4,([35],[1])),(5,([33,36],[])),(6,([5],[])),(7,([37,38],[]))]),(10,[(0,([5],[])),(1,([41],[])),(2,([],[])),(3,([0],[])),(4,([44],[1])),(5,([43,45],[])),(6,([46],[])),(7,([42],[])),(8,([48],[])),(9,([47,49],[]))])]
def an_k107:Ann:=(.seq .u (.seq .u (.seq (.seq .u (.cut ⟨[(4,.c (.pb 1 1 0)),(5,.c (.pb 2 1 0))],[.box (.agg [.rows true .u8,.int .i64]),.box (.agg [.nil]),.box (.agg [.own 3]),.rows true .atom]⟩ (.cond (.seq .u (.block (.seq .u (.cut ⟨[(4,.c (.pb 1 1 0)),(5,.c (.pb 2 1 0))],[.box (.agg [.rows true .u8,.int .i64]),.box (.agg [.nil]),.box (.agg [.own 3]),.rows true .atom]⟩ (.cond .u (.seq .u (.cut ⟨[(4,.c (.pb 1 1 0)),(5,.c (.pb 2 1 0))],[.box (.agg [.rows true .u8,.int .i64]),.box (.agg [.nil]),.box (.agg [.own 3]),.rows true .atom]⟩ (.cond .u (.seq .u (.cut ⟨[(4,.c (.pb 1 1 0)),(5,.c (.pb 2 1 0))],[.box (.agg [.rows true .u8,.int .i64]),.box (.agg [.nil]),.box (.agg [.own 3]),.rows true .atom]⟩ (.cond .u .u))))))))))) .u))) .u)))
@[reducible] def lk_k107 : LitK := ⟨[26, 35]⟩
theorem run_k107 (A:Alg) (c_k101:Ct A.toCar s_k101) (c_k100:Ct A.toCar s_k100) (c_k83:Ct A.toCar s_k83) (c_k106:Ct A.toCar s_k106) (x:Tup A.toCar s_k107.inp): @runX lk_k107 A X (ofL A.toCar [(24,⟨s_k101,c_k101⟩),(25,⟨s_k100,c_k100⟩),(29,⟨s_k83,c_k83⟩),(52,⟨s_k106,c_k106⟩)]) (ordL ord_k107) (@chkL lk_k107 E ord_k107) an_k107 s_k107 Tryz.f23 (Tryz.f23.body.getD .skip) x=F_k107 A c_k101.pre c_k101.fn c_k100.pre c_k100.fn c_k83.pre c_k83.fn c_k106.pre c_k106.fn x:=by kernel_rfl
def ord_k79:List (Nat×List DEnt):=[(19,[(0,([7],[])),(1,([9],[])),(2,([10],[])),(3,([11],[])),(4,([2,67],[2,3])),(5,([68],[])),(6,([4,69],[3])),(7,([5,70],[]))])]
def an_k79:Ann:=(.seq .u (.seq .u (.seq .u (.seq .u (.seq .u (.seq (.seq .u (.cut ⟨[(2,.c (.pb 0 1 0)),(4,.c (.pb 1 1 0)),(5,.c (.pb 2 1 0)),(6,.c (.pb 3 2 0)),(7,.c (.pb 4 1 0)),(8,.c (.int .i64)),(9,.c (.int .i64))],[.box (.agg [.nil]),.box (.agg [.nil]),.box (.agg [.nil]),.box (.agg [.rows true .u8,.int .i64]),.box (.agg [.own 5]),.rows true .atom]⟩ (.cond .u .u))) (.seq .u (.seq .u (.seq (.seq .u (.block (.seq .u (.cut ⟨[(2,.c (.pb 0 1 0)),(4,.c (.pb 1 1 0)),(5,.c (.pb 2 1 0)),(7,.c (.pb 3 1 0)),(9,.c (.int .i64)),(10,.c (.pb 4 1 0)),(11,.c (.pb 5 1 0))],[.box (.agg [.nil]),.box (.agg [.nil]),.box (.agg [.nil]),.box (.agg [.own 6]),.box (.agg [.rows true .mono]),.box (.agg [.rows true .mono]),.rows true .atom]⟩ (.cond .u (.seq .u (.cut ⟨[(2,.c (.pb 0 1 0)),(4,.c (.pb 1 1 0)),(5,.c (.pb 2 1 0)),(7,.c (.pb 3 1 0)),(9,.c (.int .i64)),(10,.c (.pb 4 1 0)),(11,.c (.pb 5 1 0))],[.box (.agg [.nil]),.box (.agg [.nil]),.box (.agg [.nil]),.box (.agg [.own 6]),.box (.agg [.own 7]),.box (.agg [.own 8]),.rows true .atom,.rows true .mono,.rows true .mono]⟩ (.cond .u (.seq .u (.cut ⟨[(2,.c (.pb 0 1 0)),(4,.c (.pb 1 1 0)),(5,.c (.pb 2 1 0)),(7,.c (.pb 3 1 0)),(9,.c (.int .i64)),(10,.c (.pb 4 1 0)),(11,.c (.pb 5 1 0))],[.box (.agg [.nil]),.box (.agg [.nil]),.box (.agg [.nil]),.box (.agg [.own 6]),.box (.agg [.own 7]),.box (.agg [.own 8]),.rows true .atom,.rows true .mono,.rows true .mono]⟩ (.cond .u (.seq .u (.cut ⟨[(2,.c (.pb 0 1 0)),(4,.c (.pb 1 1 0)),(5,.c (.pb 2 1 0)),(7,.c (.pb 3 1 0)),(9,.c (.int .i64)),(10,.c (.pb 4 1 0)),(11,.c (.pb 5 1 0))],[.box (.agg [.nil]),.box (.agg [.nil]),.box (.agg [.nil]),.box (.agg [.own 6]),.box (.agg [.own 7]),.box (.agg [.own 8]),.rows true .atom,.rows true .mono,.rows true .mono]⟩ (.cond (.seq .u (.cut ⟨[(2,.c (.pb 0 1 0)),(4,.c (.pb 1 1 0)),(5,.c (.pb 2 1 0)),(7,.c (.pb 3 1 0)),(9,.c (.int .i64)),(10,.c (.pb 4 1 0)),(11,.c (.pb 5 1 0))],[.box (.agg [.nil]),.box (.agg [.nil]),.box (.agg [.nil]),.box (.agg [.own 6]),.box (.agg [.own 7]),.box (.agg [.own 8]),.rows true .atom,.rows true .mono,.rows true .mono]⟩ (.cond .u .u))) .u)))))))))))))) .u)))))))))
@[reducible] def lk_k79 : LitK := ⟨[]⟩
theorem run_k79 (A:Alg) (c_k99:Ct A.toCar s_k99) (c_k101:Ct A.toCar s_k101) (c_k100:Ct A.toCar s_k100) (c_k83:Ct A.toCar s_k83) (c_k84:Ct A.toCar s_k84) (c_k102:Ct A.toCar s_k102) (c_k105:Ct A.toCar s_k105) (c_k107:Ct A.toCar s_k107) (x:Tup A.toCar s_k79.inp): @runX lk_k79 A X (ofL A.toCar [(22,⟨s_k99,c_k99⟩),(24,⟨s_k101,c_k101⟩),(25,⟨s_k100,c_k100⟩),(29,⟨s_k83,c_k83⟩),(27,⟨s_k84,c_k84⟩),(28,⟨s_k102,c_k102⟩),(26,⟨s_k105,c_k105⟩),(23,⟨s_k107,c_k107⟩)]) (ordL ord_k79) (@chkL lk_k79 E ord_k79) an_k79 s_k79 Tryz.f6 (Tryz.f6.body.getD .skip) x=F_k79 A c_k99.pre c_k99.fn c_k101.pre c_k101.fn c_k100.pre c_k100.fn c_k83.pre c_k83.fn c_k84.pre c_k84.fn c_k102.pre c_k102.fn c_k105.pre c_k105.fn c_k107.pre c_k107.fn x:=by kernel_rfl
def ord_k34:List (Nat×List DEnt):=[]
def an_k34:Ann:= .u
@[reducible] def lk_k34 : LitK := ⟨[]⟩
theorem run_k34 (A:Alg) (x:Tup A.toCar s_k34.inp): @runX lk_k34 A X (ofL A.toCar []) (ordL ord_k34) (@chkL lk_k34 E ord_k34) an_k34 s_k34 Tryz.f38 (Tryz.f38.body.getD .skip) x=F_k34 A x:=by kernel_rfl
def ord_k35:List (Nat×List DEnt):=[]
def an_k35:Ann:= .u
@[reducible] def lk_k35 : LitK := ⟨[]⟩
theorem run_k35 (A:Alg) (c_k34:Ct A.toCar s_k34) (x:Tup A.toCar s_k35.inp): @runX lk_k35 A X (ofL A.toCar [(38,⟨s_k34,c_k34⟩)]) (ordL ord_k35) (@chkL lk_k35 E ord_k35) an_k35 s_k35 Tryz.f30 (Tryz.f30.body.getD .skip) x=F_k35 A c_k34.pre c_k34.fn x:=by kernel_rfl
def ord_k15:List (Nat×List DEnt):=[]
def an_k15:Ann:= .u
@[reducible] def lk_k15 : LitK := ⟨[]⟩
theorem run_k15 (A:Alg) (x:Tup A.toCar s_k15.inp): @runX lk_k15 A X (ofL A.toCar []) (ordL ord_k15) (@chkL lk_k15 E ord_k15) an_k15 s_k15 Tryz.f60 (Tryz.f60.body.getD .skip) x=F_k15 A x:=by kernel_rfl
def ord_k61:List (Nat×List DEnt):=[]
def an_k61:Ann:=(.seq .u (.seq (.seq .u (.block (.loop ⟨[(0,.c (.rows false .i64)),(1,.c (.fn 60 [(0,1)])),(7,.c (.int .i64)),(8,.c (.int .i64))],[.box (.c (.int .i64))]⟩ .u))) .u))
@[reducible] def lk_k61 : LitK := ⟨[]⟩
theorem run_k61 (A:Alg) (c_k15:Ct A.toCar s_k15) (x:Tup A.toCar s_k61.inp): @runX lk_k61 A X (ofL A.toCar [(60,⟨s_k15,c_k15⟩)]) (ordL ord_k61) (@chkL lk_k61 E ord_k61) an_k61 s_k61 Tryz.f90 (Tryz.f90.body.getD .skip) x=F_k61 A c_k15.pre c_k15.fn x:=by kernel_rfl
def ord_k56:List (Nat×List DEnt):=[]
def an_k56:Ann:= .u
@[reducible] def lk_k56 : LitK := ⟨[]⟩
theorem run_k56 (A:Alg) (c_k61:Ct A.toCar s_k61) (x:Tup A.toCar s_k56.inp): @runX lk_k56 A X (ofL A.toCar [(90,⟨s_k61,c_k61⟩)]) (ordL ord_k56) (@chkL lk_k56 E ord_k56) an_k56 s_k56 Tryz.f59 (Tryz.f59.body.getD .skip) x=F_k56 A c_k61.pre c_k61.fn x:=by kernel_rfl
def ord_k14:List (Nat×List DEnt):=[]
def an_k14:Ann:=(.seq .u (.seq (.seq .u (.block (.loop ⟨[(3,.c (.pb 0 1 0)),(8,.c (.rows false .mono)),(9,.c (.int .i64)),(10,.c (.int .i64))],[.box (.c (.int .i64))]⟩ .u))) .u))
@[reducible] def lk_k14 : LitK := ⟨[]⟩
theorem run_k14 (A:Alg) (c_k56:Ct A.toCar s_k56) (x:Tup A.toCar s_k14.inp): @runX lk_k14 A X (ofL A.toCar [(59,⟨s_k56,c_k56⟩)]) (ordL ord_k14) (@chkL lk_k14 E ord_k14) an_k14 s_k14 Tryz.f32 (Tryz.f32.body.getD .skip) x=F_k14 A c_k56.pre c_k56.fn x:=by kernel_rfl
def ord_k3:List (Nat×List DEnt):=[]
def an_k3:Ann:= .u
@[reducible] def lk_k3 : LitK := ⟨[]⟩
theorem run_k3 (A:Alg) (x:Tup A.toCar s_k3.inp): @runX lk_k3 A X (ofL A.toCar []) (ordL ord_k3) (@chkL lk_k3 E ord_k3) an_k3 s_k3 Tryz.f104 (Tryz.f104.body.getD .skip) x=F_k3 A x:=by kernel_rfl
def ord_k1:List (Nat×List DEnt):=[]
def an_k1:Ann:= .u
@[reducible] def lk_k1 : LitK := ⟨[]⟩
theorem run_k1 (A:Alg) (c_k3:Ct A.toCar s_k3) (x:Tup A.toCar s_k1.inp): @runX lk_k1 A X (ofL A.toCar [(104,⟨s_k3,c_k3⟩)]) (ordL ord_k1) (@chkL lk_k1 E ord_k1) an_k1 s_k1 Tryz.f85 (Tryz.f85.body.getD .skip) x=F_k1 A c_k3.pre c_k3.fn x:=by kernel_rfl
def ord_k62:List (Nat×List DEnt):=[(4,[(0,([0],[])),(1,([3],[])),(2,([11,12],[])),(3,([13],[])),(4,([0],[])),(5,([3],[])),(6,([16],[])),(7,([15,17],[])),(8,([18],[])),(9,([14,19],[]))])]
def an_k62:Ann:=(.seq .u (.seq (.seq .u (.block (.loop ⟨[(0,.c (.rows false .i64)),(3,.c (.int .i64))],[]⟩ .u))) .u))
@[reducible] def lk_k62 : LitK := ⟨[]⟩
theorem run_k62 (A:Alg) (c_k1:Ct A.toCar s_k1) (x:Tup A.toCar s_k62.inp): @runX lk_k62 A X (ofL A.toCar [(85,⟨s_k1,c_k1⟩)]) (ordL ord_k62) (@chkL lk_k62 E ord_k62) an_k62 s_k62 Tryz.f55 (Tryz.f55.body.getD .skip) x=F_k62 A c_k1.pre c_k1.fn x:=by kernel_rfl
def ord_k2:List (Nat×List DEnt):=[]
def an_k2:Ann:=(.seq .u (.seq .u (.seq (.seq .u (.block (.loop ⟨[(3,.c (.int .i64)),(6,.c (.rows false .i64)),(7,.c (.int .i64)),(8,.c (.int .i64))],[]⟩ .u))) .u)))
@[reducible] def lk_k2 : LitK := ⟨[]⟩
theorem run_k2 (A:Alg) (x:Tup A.toCar s_k2.inp): @runX lk_k2 A X (ofL A.toCar []) (ordL ord_k2) (@chkL lk_k2 E ord_k2) an_k2 s_k2 Tryz.f86 (Tryz.f86.body.getD .skip) x=F_k2 A x:=by kernel_rfl
def ord_k0:List (Nat×List DEnt):=[]
def an_k0:Ann:= .u
@[reducible] def lk_k0 : LitK := ⟨[]⟩
theorem run_k0 (A:Alg) (c_k3:Ct A.toCar s_k3) (x:Tup A.toCar s_k0.inp): @runX lk_k0 A X (ofL A.toCar [(104,⟨s_k3,c_k3⟩)]) (ordL ord_k0) (@chkL lk_k0 E ord_k0) an_k0 s_k0 Tryz.f87 (Tryz.f87.body.getD .skip) x=F_k0 A c_k3.pre c_k3.fn x:=by kernel_rfl
def ord_k52:List (Nat×List DEnt):=[]
def an_k52:Ann:=(.seq .u (.seq (.seq .u (.block (.loop ⟨[(0,.c (.rows false .i64)),(1,.c (.rows false .i64)),(9,.c (.rows false .i64)),(10,.c (.int .i64)),(11,.c (.int .i64))],[]⟩ .u))) .u))
@[reducible] def lk_k52 : LitK := ⟨[]⟩
theorem run_k52 (A:Alg) (c_k0:Ct A.toCar s_k0) (x:Tup A.toCar s_k52.inp): @runX lk_k52 A X (ofL A.toCar [(87,⟨s_k0,c_k0⟩)]) (ordL ord_k52) (@chkL lk_k52 E ord_k52) an_k52 s_k52 Tryz.f88 (Tryz.f88.body.getD .skip) x=F_k52 A c_k0.pre c_k0.fn x:=by kernel_rfl
def ord_k32:List (Nat×List DEnt):=[]
def an_k32:Ann:= .u
@[reducible] def lk_k32 : LitK := ⟨[]⟩
theorem run_k32 (A:Alg) (c_k2:Ct A.toCar s_k2) (c_k0:Ct A.toCar s_k0) (c_k52:Ct A.toCar s_k52) (x:Tup A.toCar s_k32.inp): @runX lk_k32 A X (ofL A.toCar [(86,⟨s_k2,c_k2⟩),(87,⟨s_k0,c_k0⟩),(88,⟨s_k52,c_k52⟩)]) (ordL ord_k32) (@chkL lk_k32 E ord_k32) an_k32 s_k32 Tryz.f56 (Tryz.f56.body.getD .skip) x=F_k32 A c_k2.pre c_k2.fn c_k0.pre c_k0.fn c_k52.pre c_k52.fn x:=by kernel_rfl
def ord_k11:List (Nat×List DEnt):=[]
def an_k11:Ann:= .u
@[reducible] def lk_k11 : LitK := ⟨[]⟩
theorem run_k11 (A:Alg) (x:Tup A.toCar s_k11.inp): @runX lk_k11 A X (ofL A.toCar []) (ordL ord_k11) (@chkL lk_k11 E ord_k11) an_k11 s_k11 Tryz.f58 (Tryz.f58.body.getD .skip) x=F_k11 A x:=by kernel_rfl
def ord_k60:List (Nat×List DEnt):=[]
def an_k60:Ann:=(.seq .u (.seq (.seq .u (.block (.loop ⟨[(0,.c (.rows false .mono)),(1,.c (.fn 58 [])),(7,.c (.int .i64)),(8,.c (.int .i64))],[]⟩ .u))) .u))
@[reducible] def lk_k60 : LitK := ⟨[]⟩
theorem run_k60 (A:Alg) (c_k11:Ct A.toCar s_k11) (x:Tup A.toCar s_k60.inp): @runX lk_k60 A X (ofL A.toCar [(58,⟨s_k11,c_k11⟩)]) (ordL ord_k60) (@chkL lk_k60 E ord_k60) an_k60 s_k60 Tryz.f89 (Tryz.f89.body.getD .skip) x=F_k60 A c_k11.pre c_k11.fn x:=by kernel_rfl
def ord_k55:List (Nat×List DEnt):=[]
def an_k55:Ann:= .u
@[reducible] def lk_k55 : LitK := ⟨[]⟩
theorem run_k55 (A:Alg) (c_k60:Ct A.toCar s_k60) (x:Tup A.toCar s_k55.inp): @runX lk_k55 A X (ofL A.toCar [(89,⟨s_k60,c_k60⟩)]) (ordL ord_k55) (@chkL lk_k55 E ord_k55) an_k55 s_k55 Tryz.f57 (Tryz.f57.body.getD .skip) x=F_k55 A c_k60.pre c_k60.fn x:=by kernel_rfl
def ord_k10:List (Nat×List DEnt):=[(4,[(0,([4],[])),(1,([13],[])),(2,([14],[])),(3,([15],[])),(4,([16],[])),(5,([4,17],[])),(6,([17,18],[])),(7,([17,19],[])),(8,([17,20],[])),(9,([17,21],[])),(10,([22],[])),(11,([4,23],[])),(12,([23,24],[])),(13,([23,25],[])),(14,([23,26],[])),(15,([23,27],[])),(16,([28],[])),(17,([3,29],[])),(18,([29,30],[])),(19,([29,31],[])),(20,([1,32],[])),(21,([32,33],[])),(22,([3,32],[])),(23,([32,35],[])),(24,([32,34,36],[])),(25,([32,37],[])),(26,([32,38],[])),(27,([4,32],[])),(28,([32,40],[])),(29,([32,39,41],[])),(30,([32,42],[])),(31,([29,32,43],[])),(32,([29,44],[]))])]
def an_k10:Ann:=(.seq .u (.seq (.seq .u (.block (.loop ⟨[(1,.c (.pb 0 1 0)),(6,.c (.rows false .mono)),(7,.c (.int .i64)),(8,.c (.int .i64))],[.box (.sv false .poly)]⟩ .u))) .u))
@[reducible] def lk_k10 : LitK := ⟨[]⟩
theorem run_k10 (A:Alg) (c_k34:Ct A.toCar s_k34) (c_k14:Ct A.toCar s_k14) (c_k62:Ct A.toCar s_k62) (c_k32:Ct A.toCar s_k32) (c_k55:Ct A.toCar s_k55) (x:Tup A.toCar s_k10.inp): @runX lk_k10 A X (ofL A.toCar [(38,⟨s_k34,c_k34⟩),(32,⟨s_k14,c_k14⟩),(55,⟨s_k62,c_k62⟩),(56,⟨s_k32,c_k32⟩),(57,⟨s_k55,c_k55⟩)]) (ordL ord_k10) (@chkL lk_k10 E ord_k10) an_k10 s_k10 Tryz.f31 (Tryz.f31.body.getD .skip) x=F_k10 A c_k34.pre c_k34.fn c_k14.pre c_k14.fn c_k62.pre c_k62.fn c_k32.pre c_k32.fn c_k55.pre c_k55.fn x:=by kernel_rfl
def ord_k36:List (Nat×List DEnt):=[]
def an_k36:Ann:= .u
@[reducible] def lk_k36 : LitK := ⟨[]⟩
theorem run_k36 (A:Alg) (c_k34:Ct A.toCar s_k34) (x:Tup A.toCar s_k36.inp): @runX lk_k36 A X (ofL A.toCar [(38,⟨s_k34,c_k34⟩)]) (ordL ord_k36) (@chkL lk_k36 E ord_k36) an_k36 s_k36 Tryz.f76 (Tryz.f76.body.getD .skip) x=F_k36 A c_k34.pre c_k34.fn x:=by kernel_rfl
def ord_k16:List (Nat×List DEnt):=[]
def an_k16:Ann:= .u
@[reducible] def lk_k16 : LitK := ⟨[]⟩
theorem run_k16 (A:Alg) (c_k34:Ct A.toCar s_k34) (c_k35:Ct A.toCar s_k35) (c_k14:Ct A.toCar s_k14) (c_k10:Ct A.toCar s_k10) (c_k36:Ct A.toCar s_k36) (x:Tup A.toCar s_k16.inp): @runX lk_k16 A X (ofL A.toCar [(38,⟨s_k34,c_k34⟩),(30,⟨s_k35,c_k35⟩),(32,⟨s_k14,c_k14⟩),(31,⟨s_k10,c_k10⟩),(76,⟨s_k36,c_k36⟩)]) (ordL ord_k16) (@chkL lk_k16 E ord_k16) an_k16 s_k16 Tryz.f50 (Tryz.f50.body.getD .skip) x=F_k16 A c_k34.pre c_k34.fn c_k35.pre c_k35.fn c_k14.pre c_k14.fn c_k10.pre c_k10.fn c_k36.pre c_k36.fn x:=by kernel_rfl
def ord_k12:List (Nat×List DEnt):=[(7,[(0,([7],[])),(1,([27],[])),(2,([3],[])),(3,([29],[])),(4,([6],[])),(5,([30,31],[])),(6,([32],[])),(7,([33],[])),(9,([7],[])),(10,([36],[])),(11,([3],[])),(12,([38],[])),(13,([6],[])),(14,([39,40],[])),(15,([41],[])),(16,([42],[])),(8,([28,34],[10,12,16])),(17,([37,43],[])),(18,([35,44],[])),(19,([45],[])),(20,([46],[]))])]
def an_k12:Ann:=(.seq .u (.seq .u (.seq (.seq .u (.block (.loop ⟨[(3,.c (.pb 0 1 0)),(20,.c (.rows false .mono)),(21,.c (.int .i64)),(22,.c (.int .i64))],[.box (.sv false .poly)]⟩ .u))) .u)))
@[reducible] def lk_k12 : LitK := ⟨[]⟩
theorem run_k12 (A:Alg) (c_k2:Ct A.toCar s_k2) (c_k0:Ct A.toCar s_k0) (c_k32:Ct A.toCar s_k32) (x:Tup A.toCar s_k12.inp): @runX lk_k12 A X (ofL A.toCar [(86,⟨s_k2,c_k2⟩),(87,⟨s_k0,c_k0⟩),(56,⟨s_k32,c_k32⟩)]) (ordL ord_k12) (@chkL lk_k12 E ord_k12) an_k12 s_k12 Tryz.f62 (Tryz.f62.body.getD .skip) x=F_k12 A c_k2.pre c_k2.fn c_k0.pre c_k0.fn c_k32.pre c_k32.fn x:=by kernel_rfl
def ord_k28:List (Nat×List DEnt):=[]
def an_k28:Ann:= .u
@[reducible] def lk_k28 : LitK := ⟨[]⟩
theorem run_k28 (A:Alg) (c_k12:Ct A.toCar s_k12) (x:Tup A.toCar s_k28.inp): @runX lk_k28 A X (ofL A.toCar [(62,⟨s_k12,c_k12⟩)]) (ordL ord_k28) (@chkL lk_k28 E ord_k28) an_k28 s_k28 Tryz.f95 (Tryz.f95.body.getD .skip) x=F_k28 A c_k12.pre c_k12.fn x:=by kernel_rfl
def ord_k17:List (Nat×List DEnt):=[]
def an_k17:Ann:= .u
@[reducible] def lk_k17 : LitK := ⟨[]⟩
theorem run_k17 (A:Alg) (c_k28:Ct A.toCar s_k28) (x:Tup A.toCar s_k17.inp): @runX lk_k17 A X (ofL A.toCar [(95,⟨s_k28,c_k28⟩)]) (ordL ord_k17) (@chkL lk_k17 E ord_k17) an_k17 s_k17 Tryz.f79 (Tryz.f79.body.getD .skip) x=F_k17 A c_k28.pre c_k28.fn x:=by kernel_rfl
def ord_k23:List (Nat×List DEnt):=[]
def an_k23:Ann:= .u
@[reducible] def lk_k23 : LitK := ⟨[]⟩
theorem run_k23 (A:Alg) (c_k17:Ct A.toCar s_k17) (x:Tup A.toCar s_k23.inp): @runX lk_k23 A X (ofL A.toCar [(79,⟨s_k17,c_k17⟩)]) (ordL ord_k23) (@chkL lk_k23 E ord_k23) an_k23 s_k23 Tryz.f78 (Tryz.f78.body.getD .skip) x=F_k23 A c_k17.pre c_k17.fn x:=by kernel_rfl
def ord_k59:List (Nat×List DEnt):=[]
def an_k59:Ann:=(.seq .u (.seq (.seq .u (.block (.loop ⟨[(0,.c (.rows false .atom)),(1,.c (.fn 78 [(0,4)])),(7,.c (.int .i64)),(8,.c (.int .i64))],[.box (.sv false .atom)]⟩ .u))) .u))
@[reducible] def lk_k59 : LitK := ⟨[]⟩
theorem run_k59 (A:Alg) (c_k23:Ct A.toCar s_k23) (x:Tup A.toCar s_k59.inp): @runX lk_k59 A X (ofL A.toCar [(78,⟨s_k23,c_k23⟩)]) (ordL ord_k59) (@chkL lk_k59 E ord_k59) an_k59 s_k59 Tryz.f77 (Tryz.f77.body.getD .skip) x=F_k59 A c_k23.pre c_k23.fn x:=by kernel_rfl
def ord_k22:List (Nat×List DEnt):=[]
def an_k22:Ann:= .u
@[reducible] def lk_k22 : LitK := ⟨[]⟩
theorem run_k22 (A:Alg) (c_k59:Ct A.toCar s_k59) (x:Tup A.toCar s_k22.inp): @runX lk_k22 A X (ofL A.toCar [(77,⟨s_k59,c_k59⟩)]) (ordL ord_k22) (@chkL lk_k22 E ord_k22) an_k22 s_k22 Tryz.f51 (Tryz.f51.body.getD .skip) x=F_k22 A c_k59.pre c_k59.fn x:=by kernel_rfl
def ord_k19:List (Nat×List DEnt):=[]
def an_k19:Ann:=(.seq .u (.seq (.seq .u (.block (.loop ⟨[(1,.c (.pb 0 1 0)),(6,.c (.rows false .atom)),(7,.c (.int .i64)),(8,.c (.int .i64))],[.box (.sv false .tab)]⟩ .u))) .u))
@[reducible] def lk_k19 : LitK := ⟨[]⟩
theorem run_k19 (A:Alg) (c_k16:Ct A.toCar s_k16) (c_k22:Ct A.toCar s_k22) (x:Tup A.toCar s_k19.inp): @runX lk_k19 A X (ofL A.toCar [(50,⟨s_k16,c_k16⟩),(51,⟨s_k22,c_k22⟩)]) (ordL ord_k19) (@chkL lk_k19 E ord_k19) an_k19 s_k19 Tryz.f19 (Tryz.f19.body.getD .skip) x=F_k19 A c_k16.pre c_k16.fn c_k22.pre c_k22.fn x:=by kernel_rfl
def ord_k6:List (Nat×List DEnt):=[]
def an_k6:Ann:= .u
@[reducible] def lk_k6 : LitK := ⟨[]⟩
theorem run_k6 (A:Alg) (c_k34:Ct A.toCar s_k34) (x:Tup A.toCar s_k6.inp): @runX lk_k6 A X (ofL A.toCar [(38,⟨s_k34,c_k34⟩)]) (ordL ord_k6) (@chkL lk_k6 E ord_k6) an_k6 s_k6 Tryz.f13 (Tryz.f13.body.getD .skip) x=F_k6 A c_k34.pre c_k34.fn x:=by kernel_rfl
def ord_k30:List (Nat×List DEnt):=[]
def an_k30:Ann:= .u
@[reducible] def lk_k30 : LitK := ⟨[]⟩
theorem run_k30 (A:Alg) (c_k34:Ct A.toCar s_k34) (x:Tup A.toCar s_k30.inp): @runX lk_k30 A X (ofL A.toCar [(38,⟨s_k34,c_k34⟩)]) (ordL ord_k30) (@chkL lk_k30 E ord_k30) an_k30 s_k30 Tryz.f36 (Tryz.f36.body.getD .skip) x=F_k30 A c_k34.pre c_k34.fn x:=by kernel_rfl
def ord_k31:List (Nat×List DEnt):=[]
def an_k31:Ann:= .u
@[reducible] def lk_k31 : LitK := ⟨[]⟩
theorem run_k31 (A:Alg) (x:Tup A.toCar s_k31.inp): @runX lk_k31 A X (ofL A.toCar []) (ordL ord_k31) (@chkL lk_k31 E ord_k31) an_k31 s_k31 Tryz.f75 (Tryz.f75.body.getD .skip) x=F_k31 A x:=by kernel_rfl
def ord_k29:List (Nat×List DEnt):=[]
def an_k29:Ann:= .u
@[reducible] def lk_k29 : LitK := ⟨[]⟩
theorem run_k29 (A:Alg) (c_k30:Ct A.toCar s_k30) (c_k31:Ct A.toCar s_k31) (x:Tup A.toCar s_k29.inp): @runX lk_k29 A X (ofL A.toCar [(36,⟨s_k30,c_k30⟩),(75,⟨s_k31,c_k31⟩)]) (ordL ord_k29) (@chkL lk_k29 E ord_k29) an_k29 s_k29 Tryz.f48 (Tryz.f48.body.getD .skip) x=F_k29 A c_k30.pre c_k30.fn c_k31.pre c_k31.fn x:=by kernel_rfl
def ord_k33:List (Nat×List DEnt):=[]
def an_k33:Ann:= .u
@[reducible] def lk_k33 : LitK := ⟨[]⟩
theorem run_k33 (A:Alg) (x:Tup A.toCar s_k33.inp): @runX lk_k33 A X (ofL A.toCar []) (ordL ord_k33) (@chkL lk_k33 E ord_k33) an_k33 s_k33 Tryz.f65 (Tryz.f65.body.getD .skip) x=F_k33 A x:=by kernel_rfl
def ord_k39:List (Nat×List DEnt):=[]
def an_k39:Ann:= .u
@[reducible] def lk_k39 : LitK := ⟨[]⟩
theorem run_k39 (A:Alg) (c_k32:Ct A.toCar s_k32) (x:Tup A.toCar s_k39.inp): @runX lk_k39 A X (ofL A.toCar [(56,⟨s_k32,c_k32⟩)]) (ordL ord_k39) (@chkL lk_k39 E ord_k39) an_k39 s_k39 Tryz.f110 (Tryz.f110.body.getD .skip) x=F_k39 A c_k32.pre c_k32.fn x:=by kernel_rfl
end Go.TX.Seat
