/- The table of the seat's types,for the abstract evaluator. Conditions: none. -/
import Derived.Test.YtkmpkebaloejhaaGreatDoorAv1
namespace Go.Proofs.YtkmpkebaloejhaaGreatDoor.Av
open Go
def owL:List (Nat×Nat):=[(127,8765432)]
def glL:List (Nat×List CV):=[(0,[.str [120],.str [121],.str [122]]),(1,[.str [112],.str [113],.str [114]]),(2,[.str [97],.str [98],.str [99],.str [100]]),(3,[.int .u64 1,.int .u64 10,.int .u64 100,.int .u64 1000,.int .u64 10000,.int .u64 100000,.int .u64 1000000,.int .u64 10000000,.int .u64 100000000,.int .u64 1000000000,.int .u64 10000000000,.int .u64 100000000000,.int .u64 1000000000000,.int .u64 10000000000000,.int .u64 100000000000000,.int .u64 1000000000000000,.int .u64 10000000000000000,.int .u64 100000000000000000,.int .u64 1000000000000000000,.int .u64 10000000000000000000])]
abbrev ty2:Ty:=(.int .i64)
abbrev ty3:Ty:=(.int .i64)
abbrev ty5:Ty:=(.int .u8)
abbrev ty9:Ty:=.str
abbrev ty22:Ty:=(.list 3 (.int .i64))
abbrev ty23:Ty:=(.list 22 (.list 3 (.int .i64)))
abbrev ty52:Ty:=(.pair (.int .i64) (.pair .str (.pair (.int .i64) (.int .i64))))
abbrev ty61:Ty:=(.pair (.int .i64) (.list 63 (.pair (.int .i64) (.pair (.int .i64) (.pair .str .str)))))
abbrev ty63:Ty:=(.pair (.int .i64) (.pair (.int .i64) (.pair .str .str)))
abbrev ty77:Ty:=(.pair .str (.int .i64))
abbrev ty82:Ty:=(.pair .str (.int .i64))
abbrev ty97:Ty:=(.pair .str (.pair (.int .i64) (.pair (.int .i64) (.int .i64))))
abbrev ty101:Ty:=(.pair .str (.list 9 .str))
abbrev ty104:Ty:=(.pair (.int .i64) (.pair .str (.pair .str (.pair .str (.pair .str (.pair (.list 63 (.pair (.int .i64) (.pair (.int .i64) (.pair .str .str)))) (.list 172 (.pair .str (.list 63 (.pair (.int .i64) (.pair (.int .i64) (.pair .str .str))))))))))))
abbrev ty122:Ty:=(.pair .str (.int .i64))
abbrev ty156:Ty:=(.pair .str (.int .i64))
abbrev ty172:Ty:=(.pair .str (.list 63 (.pair (.int .i64) (.pair (.int .i64) (.pair .str .str)))))
def bt1:BT:=.node BT.leaf 1 { kind:=.other,size:=1,bytes:=8,agg:=false,zero:=[.bot],cty:=[none],ty:=none } BT.leaf
def bt2:BT:=.node bt1 2 { kind:=.sc,size:=1,bytes:=8,agg:=false,zero:=[.int .i64 0],cty:=[none],ty:=some (.int .i64) } BT.leaf
def bt4:BT:=.node BT.leaf 4 { kind:=.sc,size:=1,bytes:=1,agg:=false,zero:=[.bool false],cty:=[none],ty:=some .bool } BT.leaf
def bt3:BT:=.node bt2 3 { kind:=.sc,size:=1,bytes:=8,agg:=false,zero:=[.int .i64 0],cty:=[none],ty:=some (.int .i64) } bt4
def bt9:BT:=.node BT.leaf 9 { kind:=.sc,size:=1,bytes:=16,agg:=false,zero:=[.str []],cty:=[none],ty:=some .str } BT.leaf
def bt23:BT:=.node BT.leaf 23 { kind:=.slice 22,size:=1,bytes:=24,agg:=false,zero:=[.nil],cty:=[some (22,(.list 3 (.int .i64)))],ty:=some (.list 22 (.list 3 (.int .i64))) } BT.leaf
def bt22:BT:=.node bt9 22 { kind:=.slice 3,size:=1,bytes:=24,agg:=false,zero:=[.nil],cty:=[some (3,(.int .i64))],ty:=some (.list 3 (.int .i64)) } bt23
def bt5:BT:=.node bt3 5 { kind:=.sc,size:=1,bytes:=1,agg:=false,zero:=[.int .u8 0],cty:=[none],ty:=some (.int .u8) } bt22
def bt26:BT:=.node BT.leaf 26 { kind:=.other,size:=1,bytes:=8,agg:=false,zero:=[.bot],cty:=[none],ty:=none } BT.leaf
def bt28:BT:=.node BT.leaf 28 { kind:=.sc,size:=1,bytes:=8,agg:=false,zero:=[.int .i64 0],cty:=[none],ty:=some (.int .i64) } BT.leaf
def bt27:BT:=.node bt26 27 { kind:=.slice 61,size:=1,bytes:=24,agg:=false,zero:=[.nil],cty:=[some (61,(.pair (.int .i64) (.list 63 (.pair (.int .i64) (.pair (.int .i64) (.pair .str .str))))))],ty:=some (.list 61 (.pair (.int .i64) (.list 63 (.pair (.int .i64) (.pair (.int .i64) (.pair .str .str)))))) } bt28
def bt34:BT:=.node BT.leaf 34 { kind:=.slice 101,size:=1,bytes:=24,agg:=false,zero:=[.nil],cty:=[some (101,(.pair .str (.list 9 .str)))],ty:=some (.list 101 (.pair .str (.list 9 .str))) } BT.leaf
def bt37:BT:=.node BT.leaf 37 { kind:=.struct [(0,33),(1,34),(2,35)],size:=3,bytes:=72,agg:=true,zero:=[.nil,.nil,.nil],cty:=[some (97,(.pair .str (.pair (.int .i64) (.pair (.int .i64) (.int .i64))))),some (101,(.pair .str (.list 9 .str))),some (104,(.pair (.int .i64) (.pair .str (.pair .str (.pair .str (.pair .str (.pair (.list 63 (.pair (.int .i64) (.pair (.int .i64) (.pair .str .str)))) (.list 172 (.pair .str (.list 63 (.pair (.int .i64) (.pair (.int .i64) (.pair .str .str)))))))))))))],ty:=some (.pair (.list 97 (.pair .str (.pair (.int .i64) (.pair (.int .i64) (.int .i64))))) (.pair (.list 101 (.pair .str (.list 9 .str))) (.list 104 (.pair (.int .i64) (.pair .str (.pair .str (.pair .str (.pair .str (.pair (.list 63 (.pair (.int .i64) (.pair (.int .i64) (.pair .str .str)))) (.list 172 (.pair .str (.list 63 (.pair (.int .i64) (.pair (.int .i64) (.pair .str .str))))))))))))))) } BT.leaf
def bt35:BT:=.node bt34 35 { kind:=.slice 104,size:=1,bytes:=24,agg:=false,zero:=[.nil],cty:=[some (104,(.pair (.int .i64) (.pair .str (.pair .str (.pair .str (.pair .str (.pair (.list 63 (.pair (.int .i64) (.pair (.int .i64) (.pair .str .str)))) (.list 172 (.pair .str (.list 63 (.pair (.int .i64) (.pair (.int .i64) (.pair .str .str)))))))))))))],ty:=some (.list 104 (.pair (.int .i64) (.pair .str (.pair .str (.pair .str (.pair .str (.pair (.list 63 (.pair (.int .i64) (.pair (.int .i64) (.pair .str .str)))) (.list 172 (.pair .str (.list 63 (.pair (.int .i64) (.pair (.int .i64) (.pair .str .str))))))))))))) } bt37
def bt33:BT:=.node bt27 33 { kind:=.slice 97,size:=1,bytes:=24,agg:=false,zero:=[.nil],cty:=[some (97,(.pair .str (.pair (.int .i64) (.pair (.int .i64) (.int .i64)))))],ty:=some (.list 97 (.pair .str (.pair (.int .i64) (.pair (.int .i64) (.int .i64))))) } bt35
def bt25:BT:=.node bt5 25 { kind:=.struct [(0,3),(1,3),(2,23)],size:=3,bytes:=40,agg:=true,zero:=[.int .i64 0,.int .i64 0,.nil],cty:=[none,none,some (22,(.list 3 (.int .i64)))],ty:=some (.pair (.int .i64) (.pair (.int .i64) (.list 22 (.list 3 (.int .i64))))) } bt33
def bt47:BT:=.node BT.leaf 47 { kind:=.other,size:=1,bytes:=8,agg:=false,zero:=[.bot],cty:=[none],ty:=none } BT.leaf
def bt52:BT:=.node BT.leaf 52 { kind:=.struct [(0,3),(1,9),(2,3),(3,3)],size:=4,bytes:=40,agg:=true,zero:=[.int .i64 0,.str [],.int .i64 0,.int .i64 0],cty:=[none,none,none,none],ty:=some (.pair (.int .i64) (.pair .str (.pair (.int .i64) (.int .i64)))),eqf:=true } BT.leaf
def bt49:BT:=.node bt47 49 { kind:=.struct [(0,44),(1,3),(2,27),(3,28),(4,3)],size:=5,bytes:=72,agg:=true,zero:=[.nil,.int .i64 0,.nil,.int .i64 0,.int .i64 0],cty:=[some (52,(.pair (.int .i64) (.pair .str (.pair (.int .i64) (.int .i64))))),none,some (61,(.pair (.int .i64) (.list 63 (.pair (.int .i64) (.pair (.int .i64) (.pair .str .str)))))),none,none],ty:=some (.pair (.list 52 (.pair (.int .i64) (.pair .str (.pair (.int .i64) (.int .i64))))) (.pair (.int .i64) (.pair (.list 61 (.pair (.int .i64) (.list 63 (.pair (.int .i64) (.pair (.int .i64) (.pair .str .str)))))) (.pair (.int .i64) (.int .i64))))) } bt52
def bt56:BT:=.node BT.leaf 56 { kind:=.struct [(0,22),(1,3)],size:=2,bytes:=32,agg:=true,zero:=[.nil,.int .i64 0],cty:=[some (3,(.int .i64)),none],ty:=some (.pair (.list 3 (.int .i64)) (.int .i64)) } BT.leaf
def bt61:BT:=.node BT.leaf 61 { kind:=.struct [(0,3),(1,59)],size:=2,bytes:=32,agg:=true,zero:=[.int .i64 0,.nil],cty:=[none,some (63,(.pair (.int .i64) (.pair (.int .i64) (.pair .str .str))))],ty:=some (.pair (.int .i64) (.list 63 (.pair (.int .i64) (.pair (.int .i64) (.pair .str .str))))) } BT.leaf
def bt59:BT:=.node bt56 59 { kind:=.slice 63,size:=1,bytes:=24,agg:=false,zero:=[.nil],cty:=[some (63,(.pair (.int .i64) (.pair (.int .i64) (.pair .str .str))))],ty:=some (.list 63 (.pair (.int .i64) (.pair (.int .i64) (.pair .str .str)))) } bt61
def bt54:BT:=.node bt49 54 { kind:=.other,size:=1,bytes:=8,agg:=false,zero:=[.bot],cty:=[none],ty:=none } bt59
def bt71:BT:=.node BT.leaf 71 { kind:=.other,size:=1,bytes:=8,agg:=false,zero:=[.bot],cty:=[none],ty:=none } BT.leaf
def bt75:BT:=.node BT.leaf 75 { kind:=.slice 77,size:=1,bytes:=24,agg:=false,zero:=[.nil],cty:=[some (77,(.pair .str (.int .i64)))],ty:=some (.list 77 (.pair .str (.int .i64))) } BT.leaf
def bt74:BT:=.node bt71 74 { kind:=.other,size:=1,bytes:=8,agg:=false,zero:=[.bot],cty:=[none],ty:=none } bt75
def bt80:BT:=.node BT.leaf 80 { kind:=.slice 82,size:=1,bytes:=24,agg:=false,zero:=[.nil],cty:=[some (82,(.pair .str (.int .i64)))],ty:=some (.list 82 (.pair .str (.int .i64))) } BT.leaf
def bt85:BT:=.node BT.leaf 85 { kind:=.other,size:=1,bytes:=8,agg:=false,zero:=[.bot],cty:=[none],ty:=none } BT.leaf
def bt82:BT:=.node bt80 82 { kind:=.struct [(0,9),(1,3)],size:=2,bytes:=24,agg:=true,zero:=[.str [],.int .i64 0],cty:=[none,none],ty:=some (.pair .str (.int .i64)),eqf:=true } bt85
def bt77:BT:=.node bt74 77 { kind:=.struct [(0,9),(1,3)],size:=2,bytes:=24,agg:=true,zero:=[.str [],.int .i64 0],cty:=[none,none],ty:=some (.pair .str (.int .i64)),eqf:=true } bt82
def bt63:BT:=.node bt54 63 { kind:=.struct [(0,3),(1,3),(2,9),(3,9)],size:=4,bytes:=48,agg:=true,zero:=[.int .i64 0,.int .i64 0,.str [],.str []],cty:=[none,none,none,none],ty:=some (.pair (.int .i64) (.pair (.int .i64) (.pair .str .str))),eqf:=true } bt77
def bt44:BT:=.node bt25 44 { kind:=.slice 52,size:=1,bytes:=24,agg:=false,zero:=[.nil],cty:=[some (52,(.pair (.int .i64) (.pair .str (.pair (.int .i64) (.int .i64)))))],ty:=some (.list 52 (.pair (.int .i64) (.pair .str (.pair (.int .i64) (.int .i64))))) } bt63
def bt88:BT:=.node BT.leaf 88 { kind:=.other,size:=1,bytes:=8,agg:=false,zero:=[.bot],cty:=[none],ty:=none } BT.leaf
def bt90:BT:=.node bt88 90 { kind:=.array 2 9,size:=2,bytes:=32,agg:=true,zero:=[.str [],.str []],cty:=[none,none],ty:=none } BT.leaf
def bt92:BT:=.node BT.leaf 92 { kind:=.array 6 9,size:=6,bytes:=96,agg:=true,zero:=[.str [],.str [],.str [],.str [],.str [],.str []],cty:=[none,none,none,none,none,none],ty:=none } BT.leaf
def bt91:BT:=.node bt90 91 { kind:=.array 3 9,size:=3,bytes:=48,agg:=true,zero:=[.str [],.str [],.str []],cty:=[none,none,none],ty:=none } bt92
def bt97:BT:=.node BT.leaf 97 { kind:=.struct [(0,9),(1,3),(2,3),(3,3)],size:=4,bytes:=40,agg:=true,zero:=[.str [],.int .i64 0,.int .i64 0,.int .i64 0],cty:=[none,none,none,none],ty:=some (.pair .str (.pair (.int .i64) (.pair (.int .i64) (.int .i64)))),eqf:=true } BT.leaf
def bt102:BT:=.node BT.leaf 102 { kind:=.slice 172,size:=1,bytes:=24,agg:=false,zero:=[.nil],cty:=[some (172,(.pair .str (.list 63 (.pair (.int .i64) (.pair (.int .i64) (.pair .str .str))))))],ty:=some (.list 172 (.pair .str (.list 63 (.pair (.int .i64) (.pair (.int .i64) (.pair .str .str)))))) } BT.leaf
def bt101:BT:=.node bt97 101 { kind:=.struct [(0,9),(1,93)],size:=2,bytes:=40,agg:=true,zero:=[.str [],.nil],cty:=[none,some (9,.str)],ty:=some (.pair .str (.list 9 .str)) } bt102
def bt93:BT:=.node bt91 93 { kind:=.slice 9,size:=1,bytes:=24,agg:=false,zero:=[.nil],cty:=[some (9,.str)],ty:=some (.list 9 .str) } bt101
def bt119:BT:=.node BT.leaf 119 { kind:=.slice 122,size:=1,bytes:=24,agg:=false,zero:=[.nil],cty:=[some (122,(.pair .str (.int .i64)))],ty:=some (.list 122 (.pair .str (.int .i64))) } BT.leaf
def bt122:BT:=.node BT.leaf 122 { kind:=.struct [(0,9),(1,3)],size:=2,bytes:=24,agg:=true,zero:=[.str [],.int .i64 0],cty:=[none,none],ty:=some (.pair .str (.int .i64)),eqf:=true } BT.leaf
def bt120:BT:=.node bt119 120 { kind:=.array 17 9,size:=17,bytes:=272,agg:=true,zero:=[.str [],.str [],.str [],.str [],.str [],.str [],.str [],.str [],.str [],.str [],.str [],.str [],.str [],.str [],.str [],.str [],.str []],cty:=[none,none,none,none,none,none,none,none,none,none,none,none,none,none,none,none,none],ty:=none } bt122
def bt128:BT:=.node BT.leaf 128 { kind:=.other,size:=1,bytes:=8,agg:=false,zero:=[.bot],cty:=[none],ty:=none } BT.leaf
def bt145:BT:=.node BT.leaf 145 { kind:=.array 4 9,size:=4,bytes:=64,agg:=true,zero:=[.str [],.str [],.str [],.str []],cty:=[none,none,none,none],ty:=none } BT.leaf
def bt129:BT:=.node bt128 129 { kind:=.array 9 9,size:=9,bytes:=144,agg:=true,zero:=[.str [],.str [],.str [],.str [],.str [],.str [],.str [],.str [],.str []],cty:=[none,none,none,none,none,none,none,none,none],ty:=none } bt145
def bt125:BT:=.node bt120 125 { kind:=.slice 5,size:=1,bytes:=24,agg:=false,zero:=[.nil],cty:=[some (5,(.int .u8))],ty:=some (.list 5 (.int .u8)) } bt129
def bt104:BT:=.node bt93 104 { kind:=.struct [(0,3),(1,9),(2,9),(3,9),(4,9),(5,59),(6,102)],size:=7,bytes:=120,agg:=true,zero:=[.int .i64 0,.str [],.str [],.str [],.str [],.nil,.nil],cty:=[none,none,none,none,none,some (63,(.pair (.int .i64) (.pair (.int .i64) (.pair .str .str)))),some (172,(.pair .str (.list 63 (.pair (.int .i64) (.pair (.int .i64) (.pair .str .str))))))],ty:=some (.pair (.int .i64) (.pair .str (.pair .str (.pair .str (.pair .str (.pair (.list 63 (.pair (.int .i64) (.pair (.int .i64) (.pair .str .str)))) (.list 172 (.pair .str (.list 63 (.pair (.int .i64) (.pair (.int .i64) (.pair .str .str)))))))))))) } bt125
def bt148:BT:=.node BT.leaf 148 { kind:=.array 4 3,size:=4,bytes:=32,agg:=true,zero:=[.int .i64 0,.int .i64 0,.int .i64 0,.int .i64 0],cty:=[none,none,none,none],ty:=none } BT.leaf
def bt152:BT:=.node BT.leaf 152 { kind:=.other,size:=1,bytes:=8,agg:=false,zero:=[.bot],cty:=[none],ty:=none } BT.leaf
def bt150:BT:=.node bt148 150 { kind:=.other,size:=1,bytes:=8,agg:=false,zero:=[.bot],cty:=[none],ty:=none } bt152
def bt156:BT:=.node BT.leaf 156 { kind:=.struct [(0,9),(1,3)],size:=2,bytes:=24,agg:=true,zero:=[.str [],.int .i64 0],cty:=[none,none],ty:=some (.pair .str (.int .i64)),eqf:=true } BT.leaf
def bt164:BT:=.node BT.leaf 164 { kind:=.other,size:=1,bytes:=8,agg:=false,zero:=[.bot],cty:=[none],ty:=none } BT.leaf
def bt159:BT:=.node bt156 159 { kind:=.sc,size:=1,bytes:=8,agg:=false,zero:=[.int .u64 0],cty:=[none],ty:=some (.int .u64) } bt164
def bt154:BT:=.node bt150 154 { kind:=.slice 156,size:=1,bytes:=24,agg:=false,zero:=[.nil],cty:=[some (156,(.pair .str (.int .i64)))],ty:=some (.list 156 (.pair .str (.int .i64))) } bt159
def bt168:BT:=.node BT.leaf 168 { kind:=.other,size:=1,bytes:=8,agg:=false,zero:=[.bot],cty:=[none],ty:=none } BT.leaf
def bt172:BT:=.node BT.leaf 172 { kind:=.struct [(0,9),(1,59)],size:=2,bytes:=40,agg:=true,zero:=[.str [],.nil],cty:=[none,some (63,(.pair (.int .i64) (.pair (.int .i64) (.pair .str .str))))],ty:=some (.pair .str (.list 63 (.pair (.int .i64) (.pair (.int .i64) (.pair .str .str))))) } BT.leaf
def bt170:BT:=.node bt168 170 { kind:=.struct [(0,44),(1,3),(2,59),(3,3)],size:=4,bytes:=64,agg:=true,zero:=[.nil,.int .i64 0,.nil,.int .i64 0],cty:=[some (52,(.pair (.int .i64) (.pair .str (.pair (.int .i64) (.int .i64))))),none,some (63,(.pair (.int .i64) (.pair (.int .i64) (.pair .str .str)))),none],ty:=some (.pair (.list 52 (.pair (.int .i64) (.pair .str (.pair (.int .i64) (.int .i64))))) (.pair (.int .i64) (.pair (.list 63 (.pair (.int .i64) (.pair (.int .i64) (.pair .str .str)))) (.int .i64)))) } bt172
def bt177:BT:=.node BT.leaf 177 { kind:=.array 11 3,size:=11,bytes:=88,agg:=true,zero:=[.int .i64 0,.int .i64 0,.int .i64 0,.int .i64 0,.int .i64 0,.int .i64 0,.int .i64 0,.int .i64 0,.int .i64 0,.int .i64 0,.int .i64 0],cty:=[none,none,none,none,none,none,none,none,none,none,none],ty:=none } BT.leaf
def bt200:BT:=.node BT.leaf 200 { kind:=.struct [(0,44),(1,3),(2,59)],size:=3,bytes:=56,agg:=true,zero:=[.nil,.int .i64 0,.nil],cty:=[some (52,(.pair (.int .i64) (.pair .str (.pair (.int .i64) (.int .i64))))),none,some (63,(.pair (.int .i64) (.pair (.int .i64) (.pair .str .str))))],ty:=some (.pair (.list 52 (.pair (.int .i64) (.pair .str (.pair (.int .i64) (.int .i64))))) (.pair (.int .i64) (.list 63 (.pair (.int .i64) (.pair (.int .i64) (.pair .str .str)))))) } BT.leaf
def bt198:BT:=.node bt177 198 { kind:=.other,size:=1,bytes:=8,agg:=false,zero:=[.bot],cty:=[none],ty:=none } bt200
def bt175:BT:=.node bt170 175 { kind:=.array 11 9,size:=11,bytes:=176,agg:=true,zero:=[.str [],.str [],.str [],.str [],.str [],.str [],.str [],.str [],.str [],.str [],.str []],cty:=[none,none,none,none,none,none,none,none,none,none,none],ty:=none } bt198
def bt165:BT:=.node bt154 165 { kind:=.other,size:=1,bytes:=8,agg:=false,zero:=[.bot],cty:=[none],ty:=none } bt175
def bt146:BT:=.node bt104 146 { kind:=.array 8 9,size:=8,bytes:=128,agg:=true,zero:=[.str [],.str [],.str [],.str [],.str [],.str [],.str [],.str []],cty:=[none,none,none,none,none,none,none,none],ty:=none } bt165
def bt87:BT:=.node bt44 87 { kind:=.struct [(0,44),(1,3),(2,27),(3,28)],size:=4,bytes:=64,agg:=true,zero:=[.nil,.int .i64 0,.nil,.int .i64 0],cty:=[some (52,(.pair (.int .i64) (.pair .str (.pair (.int .i64) (.int .i64))))),none,some (61,(.pair (.int .i64) (.list 63 (.pair (.int .i64) (.pair (.int .i64) (.pair .str .str)))))),none],ty:=some (.pair (.list 52 (.pair (.int .i64) (.pair .str (.pair (.int .i64) (.int .i64))))) (.pair (.int .i64) (.pair (.list 61 (.pair (.int .i64) (.list 63 (.pair (.int .i64) (.pair (.int .i64) (.pair .str .str)))))) (.int .i64)))) } bt146
def tab:BT:=bt87
def tau:Nat→Option TI:=tab.get
end Go.Proofs.YtkmpkebaloejhaaGreatDoor.Av
