/- The table of the seat's types,for the abstract evaluator. Conditions: none. -/
import Derived.Test.YtkmpkebaloejhaaDoorAv1
namespace Go.Proofs.YtkmpkebaloejhaaDoor.Av
open Go
def owL:List (Nat×Nat):=[(136,8765432)]
def glL:List (Nat×List CV):=[(3,[.int .u64 1,.int .u64 10,.int .u64 100,.int .u64 1000,.int .u64 10000,.int .u64 100000,.int .u64 1000000,.int .u64 10000000,.int .u64 100000000,.int .u64 1000000000,.int .u64 10000000000,.int .u64 100000000000,.int .u64 1000000000000,.int .u64 10000000000000,.int .u64 100000000000000,.int .u64 1000000000000000,.int .u64 10000000000000000,.int .u64 100000000000000000,.int .u64 1000000000000000000,.int .u64 10000000000000000000])]
abbrev ty3:Ty:=(.int .i64)
abbrev ty5:Ty:=(.int .u8)
abbrev ty9:Ty:=.str
abbrev ty22:Ty:=(.list 3 (.int .i64))
abbrev ty56:Ty:=(.pair (.int .i64) (.pair (.int .i64) (.pair .str .str)))
abbrev ty78:Ty:=(.pair (.int .i64) (.list 56 (.pair (.int .i64) (.pair (.int .i64) (.pair .str .str)))))
abbrev ty85:Ty:=(.pair (.int .i64) (.pair .str (.pair (.int .i64) (.int .i64))))
abbrev ty88:Ty:=(.pair .str (.int .i64))
abbrev ty126:Ty:=(.pair .str (.int .i64))
def bt3:BT:=.node BT.leaf 3 { kind:=.sc,size:=1,bytes:=8,agg:=false,zero:=[.int .i64 0],cty:=[none],ty:=some (.int .i64) } BT.leaf
def bt4:BT:=.node bt3 4 { kind:=.sc,size:=1,bytes:=1,agg:=false,zero:=[.bool false],cty:=[none],ty:=some .bool } BT.leaf
def bt9:BT:=.node BT.leaf 9 { kind:=.sc,size:=1,bytes:=16,agg:=false,zero:=[.str []],cty:=[none],ty:=some .str } BT.leaf
def bt5:BT:=.node bt4 5 { kind:=.sc,size:=1,bytes:=1,agg:=false,zero:=[.int .u8 0],cty:=[none],ty:=some (.int .u8) } bt9
def bt23:BT:=.node BT.leaf 23 { kind:=.other,size:=1,bytes:=8,agg:=false,zero:=[.bot],cty:=[none],ty:=none } BT.leaf
def bt26:BT:=.node bt23 26 { kind:=.slice 56,size:=1,bytes:=24,agg:=false,zero:=[.nil],cty:=[some (56,(.pair (.int .i64) (.pair (.int .i64) (.pair .str .str))))],ty:=some (.list 56 (.pair (.int .i64) (.pair (.int .i64) (.pair .str .str)))) } BT.leaf
def bt33:BT:=.node BT.leaf 33 { kind:=.slice 85,size:=1,bytes:=24,agg:=false,zero:=[.nil],cty:=[some (85,(.pair (.int .i64) (.pair .str (.pair (.int .i64) (.int .i64)))))],ty:=some (.list 85 (.pair (.int .i64) (.pair .str (.pair (.int .i64) (.int .i64))))) } BT.leaf
def bt27:BT:=.node bt26 27 { kind:=.sc,size:=1,bytes:=8,agg:=false,zero:=[.int .i64 0],cty:=[none],ty:=some (.int .i64) } bt33
def bt22:BT:=.node bt5 22 { kind:=.slice 3,size:=1,bytes:=24,agg:=false,zero:=[.nil],cty:=[some (3,(.int .i64))],ty:=some (.list 3 (.int .i64)) } bt27
def bt58:BT:=.node BT.leaf 58 { kind:=.array 2 9,size:=2,bytes:=32,agg:=true,zero:=[.str [],.str []],cty:=[none,none],ty:=none } BT.leaf
def bt63:BT:=.node bt58 63 { kind:=.slice 78,size:=1,bytes:=24,agg:=false,zero:=[.nil],cty:=[some (78,(.pair (.int .i64) (.list 56 (.pair (.int .i64) (.pair (.int .i64) (.pair .str .str))))))],ty:=some (.list 78 (.pair (.int .i64) (.list 56 (.pair (.int .i64) (.pair (.int .i64) (.pair .str .str)))))) } BT.leaf
def bt78:BT:=.node BT.leaf 78 { kind:=.struct [(0,3),(1,26)],size:=2,bytes:=32,agg:=true,zero:=[.int .i64 0,.nil],cty:=[none,some (56,(.pair (.int .i64) (.pair (.int .i64) (.pair .str .str))))],ty:=some (.pair (.int .i64) (.list 56 (.pair (.int .i64) (.pair (.int .i64) (.pair .str .str))))) } BT.leaf
def bt71:BT:=.node bt63 71 { kind:=.slice 9,size:=1,bytes:=24,agg:=false,zero:=[.nil],cty:=[some (9,.str)],ty:=some (.list 9 .str) } bt78
def bt80:BT:=.node BT.leaf 80 { kind:=.other,size:=1,bytes:=8,agg:=false,zero:=[.bot],cty:=[none],ty:=none } BT.leaf
def bt85:BT:=.node BT.leaf 85 { kind:=.struct [(0,3),(1,9),(2,3),(3,3)],size:=4,bytes:=40,agg:=true,zero:=[.int .i64 0,.str [],.int .i64 0,.int .i64 0],cty:=[none,none,none,none],ty:=some (.pair (.int .i64) (.pair .str (.pair (.int .i64) (.int .i64)))),eqf:=true } BT.leaf
def bt82:BT:=.node bt80 82 { kind:=.struct [(0,22),(1,3)],size:=2,bytes:=32,agg:=true,zero:=[.nil,.int .i64 0],cty:=[some (3,(.int .i64)),none],ty:=some (.pair (.list 3 (.int .i64)) (.int .i64)) } bt85
def bt79:BT:=.node bt71 79 { kind:=.array 17 9,size:=17,bytes:=272,agg:=true,zero:=[.str [],.str [],.str [],.str [],.str [],.str [],.str [],.str [],.str [],.str [],.str [],.str [],.str [],.str [],.str [],.str [],.str []],cty:=[none,none,none,none,none,none,none,none,none,none,none,none,none,none,none,none,none],ty:=none } bt82
def bt56:BT:=.node bt22 56 { kind:=.struct [(0,3),(1,3),(2,9),(3,9)],size:=4,bytes:=48,agg:=true,zero:=[.int .i64 0,.int .i64 0,.str [],.str []],cty:=[none,none,none,none],ty:=some (.pair (.int .i64) (.pair (.int .i64) (.pair .str .str))),eqf:=true } bt79
def bt88:BT:=.node BT.leaf 88 { kind:=.struct [(0,9),(1,3)],size:=2,bytes:=24,agg:=true,zero:=[.str [],.int .i64 0],cty:=[none,none],ty:=some (.pair .str (.int .i64)),eqf:=true } BT.leaf
def bt96:BT:=.node bt88 96 { kind:=.other,size:=1,bytes:=8,agg:=false,zero:=[.bot],cty:=[none],ty:=none } BT.leaf
def bt101:BT:=.node BT.leaf 101 { kind:=.struct [(0,33),(1,3),(2,26)],size:=3,bytes:=56,agg:=true,zero:=[.nil,.int .i64 0,.nil],cty:=[some (85,(.pair (.int .i64) (.pair .str (.pair (.int .i64) (.int .i64))))),none,some (56,(.pair (.int .i64) (.pair (.int .i64) (.pair .str .str))))],ty:=some (.pair (.list 85 (.pair (.int .i64) (.pair .str (.pair (.int .i64) (.int .i64))))) (.pair (.int .i64) (.list 56 (.pair (.int .i64) (.pair (.int .i64) (.pair .str .str)))))) } BT.leaf
def bt99:BT:=.node bt96 99 { kind:=.other,size:=1,bytes:=8,agg:=false,zero:=[.bot],cty:=[none],ty:=none } bt101
def bt118:BT:=.node BT.leaf 118 { kind:=.array 3 9,size:=3,bytes:=48,agg:=true,zero:=[.str [],.str [],.str []],cty:=[none,none,none],ty:=none } BT.leaf
def bt122:BT:=.node BT.leaf 122 { kind:=.struct [(0,33),(1,3),(2,63),(3,27)],size:=4,bytes:=64,agg:=true,zero:=[.nil,.int .i64 0,.nil,.int .i64 0],cty:=[some (85,(.pair (.int .i64) (.pair .str (.pair (.int .i64) (.int .i64))))),none,some (78,(.pair (.int .i64) (.list 56 (.pair (.int .i64) (.pair (.int .i64) (.pair .str .str)))))),none],ty:=some (.pair (.list 85 (.pair (.int .i64) (.pair .str (.pair (.int .i64) (.int .i64))))) (.pair (.int .i64) (.pair (.list 78 (.pair (.int .i64) (.list 56 (.pair (.int .i64) (.pair (.int .i64) (.pair .str .str)))))) (.int .i64)))) } BT.leaf
def bt120:BT:=.node bt118 120 { kind:=.other,size:=1,bytes:=8,agg:=false,zero:=[.bot],cty:=[none],ty:=none } bt122
def bt110:BT:=.node bt99 110 { kind:=.slice 5,size:=1,bytes:=24,agg:=false,zero:=[.nil],cty:=[some (5,(.int .u8))],ty:=some (.list 5 (.int .u8)) } bt120
def bt126:BT:=.node BT.leaf 126 { kind:=.struct [(0,9),(1,3)],size:=2,bytes:=24,agg:=true,zero:=[.str [],.int .i64 0],cty:=[none,none],ty:=some (.pair .str (.int .i64)),eqf:=true } BT.leaf
def bt130:BT:=.node bt126 130 { kind:=.other,size:=1,bytes:=8,agg:=false,zero:=[.bot],cty:=[none],ty:=none } BT.leaf
def bt135:BT:=.node BT.leaf 135 { kind:=.array 11 3,size:=11,bytes:=88,agg:=true,zero:=[.int .i64 0,.int .i64 0,.int .i64 0,.int .i64 0,.int .i64 0,.int .i64 0,.int .i64 0,.int .i64 0,.int .i64 0,.int .i64 0,.int .i64 0],cty:=[none,none,none,none,none,none,none,none,none,none,none],ty:=none } BT.leaf
def bt133:BT:=.node bt130 133 { kind:=.array 11 9,size:=11,bytes:=176,agg:=true,zero:=[.str [],.str [],.str [],.str [],.str [],.str [],.str [],.str [],.str [],.str [],.str []],cty:=[none,none,none,none,none,none,none,none,none,none,none],ty:=none } bt135
def bt153:BT:=.node BT.leaf 153 { kind:=.array 6 9,size:=6,bytes:=96,agg:=true,zero:=[.str [],.str [],.str [],.str [],.str [],.str []],cty:=[none,none,none,none,none,none],ty:=none } BT.leaf
def bt159:BT:=.node BT.leaf 159 { kind:=.other,size:=1,bytes:=8,agg:=false,zero:=[.bot],cty:=[none],ty:=none } BT.leaf
def bt158:BT:=.node bt153 158 { kind:=.other,size:=1,bytes:=8,agg:=false,zero:=[.bot],cty:=[none],ty:=none } bt159
def bt145:BT:=.node bt133 145 { kind:=.other,size:=1,bytes:=8,agg:=false,zero:=[.bot],cty:=[none],ty:=none } bt158
def bt124:BT:=.node bt110 124 { kind:=.slice 126,size:=1,bytes:=24,agg:=false,zero:=[.nil],cty:=[some (126,(.pair .str (.int .i64)))],ty:=some (.list 126 (.pair .str (.int .i64))) } bt145
def bt86:BT:=.node bt56 86 { kind:=.slice 88,size:=1,bytes:=24,agg:=false,zero:=[.nil],cty:=[some (88,(.pair .str (.int .i64)))],ty:=some (.list 88 (.pair .str (.int .i64))) } bt124
def tab:BT:=bt86
def tau:Nat→Option TI:=tab.get
end Go.Proofs.YtkmpkebaloejhaaDoor.Av
