/- The table of the seat's types,for the abstract evaluator. Conditions: none. -/
import Derived.Test.YtkmpkebaloejhaaDoorAv1
namespace Go.Proofs.YtkmpkebaloejhaaDoor.Av
open Go
def owL:List (Nat×Nat):=[(136,8765432)]
def glL:List (Nat×List CV):=[(2,[.str [120],.str [121],.str [122]]),(0,[.str [112],.str [113],.str [114]]),(1,[.str [97],.str [98],.str [99],.str [100]]),(3,[.int .u64 1,.int .u64 10,.int .u64 100,.int .u64 1000,.int .u64 10000,.int .u64 100000,.int .u64 1000000,.int .u64 10000000,.int .u64 100000000,.int .u64 1000000000,.int .u64 10000000000,.int .u64 100000000000,.int .u64 1000000000000,.int .u64 10000000000000,.int .u64 100000000000000,.int .u64 1000000000000000,.int .u64 10000000000000000,.int .u64 100000000000000000,.int .u64 1000000000000000000,.int .u64 10000000000000000000])]
abbrev ty3:Ty:=(.int .i64)
abbrev ty5:Ty:=(.int .u8)
abbrev ty9:Ty:=.str
abbrev ty22:Ty:=(.list 3 (.int .i64))
abbrev ty56:Ty:=(.pair (.int .i64) (.pair (.int .i64) (.pair .str .str)))
abbrev ty73:Ty:=(.pair .str (.list 9 .str))
abbrev ty78:Ty:=(.pair (.int .i64) (.list 56 (.pair (.int .i64) (.pair (.int .i64) (.pair .str .str)))))
abbrev ty85:Ty:=(.pair (.int .i64) (.pair .str (.pair (.int .i64) (.int .i64))))
abbrev ty88:Ty:=(.pair .str (.int .i64))
abbrev ty108:Ty:=(.pair .str (.pair (.int .i64) (.pair (.int .i64) (.int .i64))))
abbrev ty193:Ty:=(.pair (.int .i64) (.pair .str (.pair .str (.pair .str (.pair .str (.pair (.list 56 (.pair (.int .i64) (.pair (.int .i64) (.pair .str .str)))) (.list 196 (.pair .str (.list 56 (.pair (.int .i64) (.pair (.int .i64) (.pair .str .str))))))))))))
def bt3:BT:=.node BT.leaf 3 { kind:=.sc,size:=1,bytes:=8,agg:=false,zero:=[.int .i64 0],cty:=[none],ty:=some (.int .i64) } BT.leaf
def bt4:BT:=.node bt3 4 { kind:=.sc,size:=1,bytes:=1,agg:=false,zero:=[.bool false],cty:=[none],ty:=some .bool } BT.leaf
def bt9:BT:=.node BT.leaf 9 { kind:=.sc,size:=1,bytes:=16,agg:=false,zero:=[.str []],cty:=[none],ty:=some .str } BT.leaf
def bt22:BT:=.node bt9 22 { kind:=.slice 3,size:=1,bytes:=24,agg:=false,zero:=[.nil],cty:=[some (3,(.int .i64))],ty:=some (.list 3 (.int .i64)) } BT.leaf
def bt5:BT:=.node bt4 5 { kind:=.sc,size:=1,bytes:=1,agg:=false,zero:=[.int .u8 0],cty:=[none],ty:=some (.int .u8) } bt22
def bt27:BT:=.node BT.leaf 27 { kind:=.sc,size:=1,bytes:=8,agg:=false,zero:=[.int .i64 0],cty:=[none],ty:=some (.int .i64) } BT.leaf
def bt33:BT:=.node bt27 33 { kind:=.slice 85,size:=1,bytes:=24,agg:=false,zero:=[.nil],cty:=[some (85,(.pair (.int .i64) (.pair .str (.pair (.int .i64) (.int .i64)))))],ty:=some (.list 85 (.pair (.int .i64) (.pair .str (.pair (.int .i64) (.int .i64))))) } BT.leaf
def bt42:BT:=.node BT.leaf 42 { kind:=.slice 108,size:=1,bytes:=24,agg:=false,zero:=[.nil],cty:=[some (108,(.pair .str (.pair (.int .i64) (.pair (.int .i64) (.int .i64)))))],ty:=some (.list 108 (.pair .str (.pair (.int .i64) (.pair (.int .i64) (.int .i64))))) } BT.leaf
def bt41:BT:=.node bt33 41 { kind:=.array 4 9,size:=4,bytes:=64,agg:=true,zero:=[.str [],.str [],.str [],.str []],cty:=[none,none,none,none],ty:=none } bt42
def bt26:BT:=.node bt5 26 { kind:=.slice 56,size:=1,bytes:=24,agg:=false,zero:=[.nil],cty:=[some (56,(.pair (.int .i64) (.pair (.int .i64) (.pair .str .str))))],ty:=some (.list 56 (.pair (.int .i64) (.pair (.int .i64) (.pair .str .str)))) } bt41
def bt44:BT:=.node BT.leaf 44 { kind:=.slice 193,size:=1,bytes:=24,agg:=false,zero:=[.nil],cty:=[some (193,(.pair (.int .i64) (.pair .str (.pair .str (.pair .str (.pair .str (.pair (.list 56 (.pair (.int .i64) (.pair (.int .i64) (.pair .str .str)))) (.list 196 (.pair .str (.list 56 (.pair (.int .i64) (.pair (.int .i64) (.pair .str .str)))))))))))))],ty:=some (.list 193 (.pair (.int .i64) (.pair .str (.pair .str (.pair .str (.pair .str (.pair (.list 56 (.pair (.int .i64) (.pair (.int .i64) (.pair .str .str)))) (.list 196 (.pair .str (.list 56 (.pair (.int .i64) (.pair (.int .i64) (.pair .str .str))))))))))))) } BT.leaf
def bt46:BT:=.node bt44 46 { kind:=.struct [(0,42),(1,43),(2,44)],size:=3,bytes:=72,agg:=true,zero:=[.nil,.nil,.nil],cty:=[some (108,(.pair .str (.pair (.int .i64) (.pair (.int .i64) (.int .i64))))),some (73,(.pair .str (.list 9 .str))),some (193,(.pair (.int .i64) (.pair .str (.pair .str (.pair .str (.pair .str (.pair (.list 56 (.pair (.int .i64) (.pair (.int .i64) (.pair .str .str)))) (.list 196 (.pair .str (.list 56 (.pair (.int .i64) (.pair (.int .i64) (.pair .str .str)))))))))))))],ty:=some (.pair (.list 108 (.pair .str (.pair (.int .i64) (.pair (.int .i64) (.int .i64))))) (.pair (.list 73 (.pair .str (.list 9 .str))) (.list 193 (.pair (.int .i64) (.pair .str (.pair .str (.pair .str (.pair .str (.pair (.list 56 (.pair (.int .i64) (.pair (.int .i64) (.pair .str .str)))) (.list 196 (.pair .str (.list 56 (.pair (.int .i64) (.pair (.int .i64) (.pair .str .str))))))))))))))) } BT.leaf
def bt56:BT:=.node BT.leaf 56 { kind:=.struct [(0,3),(1,3),(2,9),(3,9)],size:=4,bytes:=48,agg:=true,zero:=[.int .i64 0,.int .i64 0,.str [],.str []],cty:=[none,none,none,none],ty:=some (.pair (.int .i64) (.pair (.int .i64) (.pair .str .str))),eqf:=true } BT.leaf
def bt48:BT:=.node bt46 48 { kind:=.struct [(0,22),(1,22)],size:=2,bytes:=48,agg:=true,zero:=[.nil,.nil],cty:=[some (3,(.int .i64)),some (3,(.int .i64))],ty:=some (.pair (.list 3 (.int .i64)) (.list 3 (.int .i64))) } bt56
def bt59:BT:=.node BT.leaf 59 { kind:=.array 9 58,size:=18,bytes:=288,agg:=true,zero:=[.str [],.str [],.str [],.str [],.str [],.str [],.str [],.str [],.str [],.str [],.str [],.str [],.str [],.str [],.str [],.str [],.str [],.str []],cty:=[none,none,none,none,none,none,none,none,none,none,none,none,none,none,none,none,none,none],ty:=none } BT.leaf
def bt71:BT:=.node bt59 71 { kind:=.slice 9,size:=1,bytes:=24,agg:=false,zero:=[.nil],cty:=[some (9,.str)],ty:=some (.list 9 .str) } BT.leaf
def bt78:BT:=.node BT.leaf 78 { kind:=.struct [(0,3),(1,26)],size:=2,bytes:=32,agg:=true,zero:=[.int .i64 0,.nil],cty:=[none,some (56,(.pair (.int .i64) (.pair (.int .i64) (.pair .str .str))))],ty:=some (.pair (.int .i64) (.list 56 (.pair (.int .i64) (.pair (.int .i64) (.pair .str .str))))) } BT.leaf
def bt73:BT:=.node bt71 73 { kind:=.struct [(0,9),(1,71)],size:=2,bytes:=40,agg:=true,zero:=[.str [],.nil],cty:=[none,some (9,.str)],ty:=some (.pair .str (.list 9 .str)) } bt78
def bt58:BT:=.node bt48 58 { kind:=.array 2 9,size:=2,bytes:=32,agg:=true,zero:=[.str [],.str []],cty:=[none,none],ty:=none } bt73
def bt43:BT:=.node bt26 43 { kind:=.slice 73,size:=1,bytes:=24,agg:=false,zero:=[.nil],cty:=[some (73,(.pair .str (.list 9 .str)))],ty:=some (.list 73 (.pair .str (.list 9 .str))) } bt58
def bt82:BT:=.node BT.leaf 82 { kind:=.struct [(0,22),(1,3)],size:=2,bytes:=32,agg:=true,zero:=[.nil,.int .i64 0],cty:=[some (3,(.int .i64)),none],ty:=some (.pair (.list 3 (.int .i64)) (.int .i64)) } BT.leaf
def bt85:BT:=.node bt82 85 { kind:=.struct [(0,3),(1,9),(2,3),(3,3)],size:=4,bytes:=40,agg:=true,zero:=[.int .i64 0,.str [],.int .i64 0,.int .i64 0],cty:=[none,none,none,none],ty:=some (.pair (.int .i64) (.pair .str (.pair (.int .i64) (.int .i64)))),eqf:=true } BT.leaf
def bt88:BT:=.node BT.leaf 88 { kind:=.struct [(0,9),(1,3)],size:=2,bytes:=24,agg:=true,zero:=[.str [],.int .i64 0],cty:=[none,none],ty:=some (.pair .str (.int .i64)),eqf:=true } BT.leaf
def bt86:BT:=.node bt85 86 { kind:=.slice 88,size:=1,bytes:=24,agg:=false,zero:=[.nil],cty:=[some (88,(.pair .str (.int .i64)))],ty:=some (.list 88 (.pair .str (.int .i64))) } bt88
def bt99:BT:=.node BT.leaf 99 { kind:=.other,size:=1,bytes:=8,agg:=false,zero:=[.bot],cty:=[none],ty:=none } BT.leaf
def bt101:BT:=.node bt99 101 { kind:=.struct [(0,33),(1,3),(2,26)],size:=3,bytes:=56,agg:=true,zero:=[.nil,.int .i64 0,.nil],cty:=[some (85,(.pair (.int .i64) (.pair .str (.pair (.int .i64) (.int .i64))))),none,some (56,(.pair (.int .i64) (.pair (.int .i64) (.pair .str .str))))],ty:=some (.pair (.list 85 (.pair (.int .i64) (.pair .str (.pair (.int .i64) (.int .i64))))) (.pair (.int .i64) (.list 56 (.pair (.int .i64) (.pair (.int .i64) (.pair .str .str)))))) } BT.leaf
def bt110:BT:=.node BT.leaf 110 { kind:=.slice 5,size:=1,bytes:=24,agg:=false,zero:=[.nil],cty:=[some (5,(.int .u8))],ty:=some (.list 5 (.int .u8)) } BT.leaf
def bt108:BT:=.node bt101 108 { kind:=.struct [(0,9),(1,3),(2,3),(3,3)],size:=4,bytes:=40,agg:=true,zero:=[.str [],.int .i64 0,.int .i64 0,.int .i64 0],cty:=[none,none,none,none],ty:=some (.pair .str (.pair (.int .i64) (.pair (.int .i64) (.int .i64)))),eqf:=true } bt110
def bt96:BT:=.node bt86 96 { kind:=.other,size:=1,bytes:=8,agg:=false,zero:=[.bot],cty:=[none],ty:=none } bt108
def bt133:BT:=.node BT.leaf 133 { kind:=.array 11 9,size:=11,bytes:=176,agg:=true,zero:=[.str [],.str [],.str [],.str [],.str [],.str [],.str [],.str [],.str [],.str [],.str []],cty:=[none,none,none,none,none,none,none,none,none,none,none],ty:=none } BT.leaf
def bt135:BT:=.node bt133 135 { kind:=.array 11 3,size:=11,bytes:=88,agg:=true,zero:=[.int .i64 0,.int .i64 0,.int .i64 0,.int .i64 0,.int .i64 0,.int .i64 0,.int .i64 0,.int .i64 0,.int .i64 0,.int .i64 0,.int .i64 0],cty:=[none,none,none,none,none,none,none,none,none,none,none],ty:=none } BT.leaf
def bt150:BT:=.node BT.leaf 150 { kind:=.other,size:=1,bytes:=8,agg:=false,zero:=[.bot],cty:=[none],ty:=none } BT.leaf
def bt148:BT:=.node bt135 148 { kind:=.other,size:=1,bytes:=8,agg:=false,zero:=[.bot],cty:=[none],ty:=none } bt150
def bt159:BT:=.node BT.leaf 159 { kind:=.other,size:=1,bytes:=8,agg:=false,zero:=[.bot],cty:=[none],ty:=none } BT.leaf
def bt191:BT:=.node bt159 191 { kind:=.slice 196,size:=1,bytes:=24,agg:=false,zero:=[.nil],cty:=[some (196,(.pair .str (.list 56 (.pair (.int .i64) (.pair (.int .i64) (.pair .str .str))))))],ty:=some (.list 196 (.pair .str (.list 56 (.pair (.int .i64) (.pair (.int .i64) (.pair .str .str)))))) } BT.leaf
def bt196:BT:=.node BT.leaf 196 { kind:=.struct [(0,9),(1,26)],size:=2,bytes:=40,agg:=true,zero:=[.str [],.nil],cty:=[none,some (56,(.pair (.int .i64) (.pair (.int .i64) (.pair .str .str))))],ty:=some (.pair .str (.list 56 (.pair (.int .i64) (.pair (.int .i64) (.pair .str .str))))) } BT.leaf
def bt193:BT:=.node bt191 193 { kind:=.struct [(0,3),(1,9),(2,9),(3,9),(4,9),(5,26),(6,191)],size:=7,bytes:=120,agg:=true,zero:=[.int .i64 0,.str [],.str [],.str [],.str [],.nil,.nil],cty:=[none,none,none,none,none,some (56,(.pair (.int .i64) (.pair (.int .i64) (.pair .str .str)))),some (196,(.pair .str (.list 56 (.pair (.int .i64) (.pair (.int .i64) (.pair .str .str))))))],ty:=some (.pair (.int .i64) (.pair .str (.pair .str (.pair .str (.pair .str (.pair (.list 56 (.pair (.int .i64) (.pair (.int .i64) (.pair .str .str)))) (.list 196 (.pair .str (.list 56 (.pair (.int .i64) (.pair (.int .i64) (.pair .str .str)))))))))))) } bt196
def bt158:BT:=.node bt148 158 { kind:=.other,size:=1,bytes:=8,agg:=false,zero:=[.bot],cty:=[none],ty:=none } bt193
def bt118:BT:=.node bt96 118 { kind:=.array 3 9,size:=3,bytes:=48,agg:=true,zero:=[.str [],.str [],.str []],cty:=[none,none,none],ty:=none } bt158
def bt80:BT:=.node bt43 80 { kind:=.other,size:=1,bytes:=8,agg:=false,zero:=[.bot],cty:=[none],ty:=none } bt118
def tab:BT:=bt80
def tau:Nat→Option TI:=tab.get
end Go.Proofs.YtkmpkebaloejhaaDoor.Av
