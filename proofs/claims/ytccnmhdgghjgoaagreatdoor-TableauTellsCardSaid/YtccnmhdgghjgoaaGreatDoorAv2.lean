/- The table of the seat's types,for the abstract evaluator. Conditions: none. -/
import Derived.Test.YtccnmhdgghjgoaaGreatDoorAv1
namespace Go.Proofs.YtccnmhdgghjgoaaGreatDoor.Av
open Go
def owL:List (Nat×Nat):=[(93,4),(124,1000),(160,1000)]
def glL:List (Nat×List CV):=[(0,[.str [120],.str [121],.str [122]]),(1,[.str [112],.str [113],.str [114]]),(2,[.str [97],.str [98],.str [99],.str [100]])]
abbrev ty2:Ty:=(.int .i64)
abbrev ty3:Ty:=(.int .i64)
abbrev ty4:Ty:=.bool
abbrev ty9:Ty:=.str
abbrev ty22:Ty:=(.list 3 (.int .i64))
abbrev ty23:Ty:=(.list 22 (.list 3 (.int .i64)))
abbrev ty66:Ty:=(.pair (.int .i64) (.list 150 (.pair (.int .i64) (.pair (.int .i64) (.pair .str .str)))))
abbrev ty68:Ty:=(.pair (.pair (.list 3 (.int .i64)) (.list 3 (.int .i64))) (.list 3 (.int .i64)))
abbrev ty94:Ty:=(.pair .str (.pair (.int .i64) (.pair (.int .i64) (.int .i64))))
abbrev ty98:Ty:=(.pair .str (.list 9 .str))
abbrev ty103:Ty:=(.pair (.int .i64) (.pair .str (.pair .str (.pair .str (.pair .str (.pair (.list 150 (.pair (.int .i64) (.pair (.int .i64) (.pair .str .str)))) (.list 157 (.pair .str (.list 150 (.pair (.int .i64) (.pair (.int .i64) (.pair .str .str))))))))))))
abbrev ty130:Ty:=(.pair (.int .i64) (.pair .str (.pair (.int .i64) (.int .i64))))
abbrev ty150:Ty:=(.pair (.int .i64) (.pair (.int .i64) (.pair .str .str)))
abbrev ty157:Ty:=(.pair .str (.list 150 (.pair (.int .i64) (.pair (.int .i64) (.pair .str .str)))))
abbrev ty210:Ty:=(.pair .str (.int .i64))
def bt1:BT:=.node BT.leaf 1 { kind:=.other,size:=1,bytes:=8,agg:=false,zero:=[.bot],cty:=[none],ty:=none } BT.leaf
def bt3:BT:=.node BT.leaf 3 { kind:=.sc,size:=1,bytes:=8,agg:=false,zero:=[.int .i64 0],cty:=[none],ty:=some (.int .i64) } BT.leaf
def bt2:BT:=.node bt1 2 { kind:=.sc,size:=1,bytes:=8,agg:=false,zero:=[.int .i64 0],cty:=[none],ty:=some (.int .i64) } bt3
def bt5:BT:=.node BT.leaf 5 { kind:=.sc,size:=1,bytes:=1,agg:=false,zero:=[.int .u8 0],cty:=[none],ty:=some (.int .u8) } BT.leaf
def bt9:BT:=.node bt5 9 { kind:=.sc,size:=1,bytes:=16,agg:=false,zero:=[.str []],cty:=[none],ty:=some .str } BT.leaf
def bt4:BT:=.node bt2 4 { kind:=.sc,size:=1,bytes:=1,agg:=false,zero:=[.bool false],cty:=[none],ty:=some .bool } bt9
def bt23:BT:=.node BT.leaf 23 { kind:=.slice 22,size:=1,bytes:=24,agg:=false,zero:=[.nil],cty:=[some (22,(.list 3 (.int .i64)))],ty:=some (.list 22 (.list 3 (.int .i64))) } BT.leaf
def bt27:BT:=.node BT.leaf 27 { kind:=.slice 94,size:=1,bytes:=24,agg:=false,zero:=[.nil],cty:=[some (94,(.pair .str (.pair (.int .i64) (.pair (.int .i64) (.int .i64)))))],ty:=some (.list 94 (.pair .str (.pair (.int .i64) (.pair (.int .i64) (.int .i64))))) } BT.leaf
def bt25:BT:=.node bt23 25 { kind:=.struct [(0,3),(1,3),(2,23)],size:=3,bytes:=40,agg:=true,zero:=[.int .i64 0,.int .i64 0,.nil],cty:=[none,none,some (22,(.list 3 (.int .i64)))],ty:=some (.pair (.int .i64) (.pair (.int .i64) (.list 22 (.list 3 (.int .i64))))) } bt27
def bt29:BT:=.node BT.leaf 29 { kind:=.slice 103,size:=1,bytes:=24,agg:=false,zero:=[.nil],cty:=[some (103,(.pair (.int .i64) (.pair .str (.pair .str (.pair .str (.pair .str (.pair (.list 150 (.pair (.int .i64) (.pair (.int .i64) (.pair .str .str)))) (.list 157 (.pair .str (.list 150 (.pair (.int .i64) (.pair (.int .i64) (.pair .str .str)))))))))))))],ty:=some (.list 103 (.pair (.int .i64) (.pair .str (.pair .str (.pair .str (.pair .str (.pair (.list 150 (.pair (.int .i64) (.pair (.int .i64) (.pair .str .str)))) (.list 157 (.pair .str (.list 150 (.pair (.int .i64) (.pair (.int .i64) (.pair .str .str))))))))))))) } BT.leaf
def bt31:BT:=.node bt29 31 { kind:=.struct [(0,27),(1,28),(2,29)],size:=3,bytes:=72,agg:=true,zero:=[.nil,.nil,.nil],cty:=[some (94,(.pair .str (.pair (.int .i64) (.pair (.int .i64) (.int .i64))))),some (98,(.pair .str (.list 9 .str))),some (103,(.pair (.int .i64) (.pair .str (.pair .str (.pair .str (.pair .str (.pair (.list 150 (.pair (.int .i64) (.pair (.int .i64) (.pair .str .str)))) (.list 157 (.pair .str (.list 150 (.pair (.int .i64) (.pair (.int .i64) (.pair .str .str)))))))))))))],ty:=some (.pair (.list 94 (.pair .str (.pair (.int .i64) (.pair (.int .i64) (.int .i64))))) (.pair (.list 98 (.pair .str (.list 9 .str))) (.list 103 (.pair (.int .i64) (.pair .str (.pair .str (.pair .str (.pair .str (.pair (.list 150 (.pair (.int .i64) (.pair (.int .i64) (.pair .str .str)))) (.list 157 (.pair .str (.list 150 (.pair (.int .i64) (.pair (.int .i64) (.pair .str .str))))))))))))))) } BT.leaf
def bt28:BT:=.node bt25 28 { kind:=.slice 98,size:=1,bytes:=24,agg:=false,zero:=[.nil],cty:=[some (98,(.pair .str (.list 9 .str)))],ty:=some (.list 98 (.pair .str (.list 9 .str))) } bt31
def bt22:BT:=.node bt4 22 { kind:=.slice 3,size:=1,bytes:=24,agg:=false,zero:=[.nil],cty:=[some (3,(.int .i64))],ty:=some (.list 3 (.int .i64)) } bt28
def bt47:BT:=.node BT.leaf 47 { kind:=.slice 4,size:=1,bytes:=24,agg:=false,zero:=[.nil],cty:=[some (4,.bool)],ty:=some (.list 4 .bool) } BT.leaf
def bt54:BT:=.node BT.leaf 54 { kind:=.sc,size:=1,bytes:=8,agg:=false,zero:=[.int .u64 0],cty:=[none],ty:=some (.int .u64) } BT.leaf
def bt49:BT:=.node bt47 49 { kind:=.sc,size:=1,bytes:=8,agg:=false,zero:=[.int .i64 0],cty:=[none],ty:=some (.int .i64) } bt54
def bt64:BT:=.node BT.leaf 64 { kind:=.slice 150,size:=1,bytes:=24,agg:=false,zero:=[.nil],cty:=[some (150,(.pair (.int .i64) (.pair (.int .i64) (.pair .str .str))))],ty:=some (.list 150 (.pair (.int .i64) (.pair (.int .i64) (.pair .str .str)))) } BT.leaf
def bt66:BT:=.node bt64 66 { kind:=.struct [(0,3),(1,64)],size:=2,bytes:=32,agg:=true,zero:=[.int .i64 0,.nil],cty:=[none,some (150,(.pair (.int .i64) (.pair (.int .i64) (.pair .str .str))))],ty:=some (.pair (.int .i64) (.list 150 (.pair (.int .i64) (.pair (.int .i64) (.pair .str .str))))) } BT.leaf
def bt57:BT:=.node bt49 57 { kind:=.struct [(0,22),(1,22)],size:=2,bytes:=48,agg:=true,zero:=[.nil,.nil],cty:=[some (3,(.int .i64)),some (3,(.int .i64))],ty:=some (.pair (.list 3 (.int .i64)) (.list 3 (.int .i64))) } bt66
def bt84:BT:=.node BT.leaf 84 { kind:=.other,size:=1,bytes:=8,agg:=false,zero:=[.bot],cty:=[none],ty:=none } BT.leaf
def bt86:BT:=.node bt84 86 { kind:=.struct [(0,22),(1,3)],size:=2,bytes:=32,agg:=true,zero:=[.nil,.int .i64 0],cty:=[some (3,(.int .i64)),none],ty:=some (.pair (.list 3 (.int .i64)) (.int .i64)) } BT.leaf
def bt94:BT:=.node BT.leaf 94 { kind:=.struct [(0,9),(1,3),(2,3),(3,3)],size:=4,bytes:=40,agg:=true,zero:=[.str [],.int .i64 0,.int .i64 0,.int .i64 0],cty:=[none,none,none,none],ty:=some (.pair .str (.pair (.int .i64) (.pair (.int .i64) (.int .i64)))),eqf:=true } BT.leaf
def bt98:BT:=.node bt94 98 { kind:=.struct [(0,9),(1,92)],size:=2,bytes:=40,agg:=true,zero:=[.str [],.nil],cty:=[none,some (9,.str)],ty:=some (.pair .str (.list 9 .str)) } BT.leaf
def bt92:BT:=.node bt86 92 { kind:=.slice 9,size:=1,bytes:=24,agg:=false,zero:=[.nil],cty:=[some (9,.str)],ty:=some (.list 9 .str) } bt98
def bt74:BT:=.node bt57 74 { kind:=.array 2 9,size:=2,bytes:=32,agg:=true,zero:=[.str [],.str []],cty:=[none,none],ty:=none } bt92
def bt33:BT:=.node bt22 33 { kind:=.slice 66,size:=1,bytes:=24,agg:=false,zero:=[.nil],cty:=[some (66,(.pair (.int .i64) (.list 150 (.pair (.int .i64) (.pair (.int .i64) (.pair .str .str))))))],ty:=some (.list 66 (.pair (.int .i64) (.list 150 (.pair (.int .i64) (.pair (.int .i64) (.pair .str .str)))))) } bt74
def bt103:BT:=.node BT.leaf 103 { kind:=.struct [(0,3),(1,9),(2,9),(3,9),(4,9),(5,64),(6,101)],size:=7,bytes:=120,agg:=true,zero:=[.int .i64 0,.str [],.str [],.str [],.str [],.nil,.nil],cty:=[none,none,none,none,none,some (150,(.pair (.int .i64) (.pair (.int .i64) (.pair .str .str)))),some (157,(.pair .str (.list 150 (.pair (.int .i64) (.pair (.int .i64) (.pair .str .str))))))],ty:=some (.pair (.int .i64) (.pair .str (.pair .str (.pair .str (.pair .str (.pair (.list 150 (.pair (.int .i64) (.pair (.int .i64) (.pair .str .str)))) (.list 157 (.pair .str (.list 150 (.pair (.int .i64) (.pair (.int .i64) (.pair .str .str)))))))))))) } BT.leaf
def bt122:BT:=.node BT.leaf 122 { kind:=.slice 130,size:=1,bytes:=24,agg:=false,zero:=[.nil],cty:=[some (130,(.pair (.int .i64) (.pair .str (.pair (.int .i64) (.int .i64)))))],ty:=some (.list 130 (.pair (.int .i64) (.pair .str (.pair (.int .i64) (.int .i64))))) } BT.leaf
def bt108:BT:=.node bt103 108 { kind:=.map 3 4,size:=1,bytes:=8,agg:=false,zero:=[.bot],cty:=[none],ty:=none } bt122
def bt127:BT:=.node BT.leaf 127 { kind:=.struct [(0,122),(1,3),(2,33),(3,49),(4,3)],size:=5,bytes:=72,agg:=true,zero:=[.nil,.int .i64 0,.nil,.int .i64 0,.int .i64 0],cty:=[some (130,(.pair (.int .i64) (.pair .str (.pair (.int .i64) (.int .i64))))),none,some (66,(.pair (.int .i64) (.list 150 (.pair (.int .i64) (.pair (.int .i64) (.pair .str .str)))))),none,none],ty:=some (.pair (.list 130 (.pair (.int .i64) (.pair .str (.pair (.int .i64) (.int .i64))))) (.pair (.int .i64) (.pair (.list 66 (.pair (.int .i64) (.list 150 (.pair (.int .i64) (.pair (.int .i64) (.pair .str .str)))))) (.pair (.int .i64) (.int .i64))))) } BT.leaf
def bt130:BT:=.node bt127 130 { kind:=.struct [(0,3),(1,9),(2,3),(3,3)],size:=4,bytes:=40,agg:=true,zero:=[.int .i64 0,.str [],.int .i64 0,.int .i64 0],cty:=[none,none,none,none],ty:=some (.pair (.int .i64) (.pair .str (.pair (.int .i64) (.int .i64)))),eqf:=true } BT.leaf
def bt125:BT:=.node bt108 125 { kind:=.other,size:=1,bytes:=8,agg:=false,zero:=[.bot],cty:=[none],ty:=none } bt130
def bt143:BT:=.node BT.leaf 143 { kind:=.array 6 9,size:=6,bytes:=96,agg:=true,zero:=[.str [],.str [],.str [],.str [],.str [],.str []],cty:=[none,none,none,none,none,none],ty:=none } BT.leaf
def bt150:BT:=.node bt143 150 { kind:=.struct [(0,3),(1,3),(2,9),(3,9)],size:=4,bytes:=48,agg:=true,zero:=[.int .i64 0,.int .i64 0,.str [],.str []],cty:=[none,none,none,none],ty:=some (.pair (.int .i64) (.pair (.int .i64) (.pair .str .str))),eqf:=true } BT.leaf
def bt157:BT:=.node BT.leaf 157 { kind:=.struct [(0,9),(1,64)],size:=2,bytes:=40,agg:=true,zero:=[.str [],.nil],cty:=[none,some (150,(.pair (.int .i64) (.pair (.int .i64) (.pair .str .str))))],ty:=some (.pair .str (.list 150 (.pair (.int .i64) (.pair (.int .i64) (.pair .str .str))))) } BT.leaf
def bt162:BT:=.node bt157 162 { kind:=.other,size:=1,bytes:=8,agg:=false,zero:=[.bot],cty:=[none],ty:=none } BT.leaf
def bt151:BT:=.node bt150 151 { kind:=.other,size:=1,bytes:=8,agg:=false,zero:=[.bot],cty:=[none],ty:=none } bt162
def bt140:BT:=.node bt125 140 { kind:=.array 3 9,size:=3,bytes:=48,agg:=true,zero:=[.str [],.str [],.str []],cty:=[none,none,none],ty:=none } bt151
def bt187:BT:=.node BT.leaf 187 { kind:=.array 8 9,size:=8,bytes:=128,agg:=true,zero:=[.str [],.str [],.str [],.str [],.str [],.str [],.str [],.str []],cty:=[none,none,none,none,none,none,none,none],ty:=none } BT.leaf
def bt196:BT:=.node BT.leaf 196 { kind:=.other,size:=1,bytes:=8,agg:=false,zero:=[.bot],cty:=[none],ty:=none } BT.leaf
def bt189:BT:=.node bt187 189 { kind:=.array 4 3,size:=4,bytes:=32,agg:=true,zero:=[.int .i64 0,.int .i64 0,.int .i64 0,.int .i64 0],cty:=[none,none,none,none],ty:=none } bt196
def bt203:BT:=.node BT.leaf 203 { kind:=.array 9 9,size:=9,bytes:=144,agg:=true,zero:=[.str [],.str [],.str [],.str [],.str [],.str [],.str [],.str [],.str []],cty:=[none,none,none,none,none,none,none,none,none],ty:=none } BT.leaf
def bt207:BT:=.node bt203 207 { kind:=.slice 210,size:=1,bytes:=24,agg:=false,zero:=[.nil],cty:=[some (210,(.pair .str (.int .i64)))],ty:=some (.list 210 (.pair .str (.int .i64))) } BT.leaf
def bt198:BT:=.node bt189 198 { kind:=.other,size:=1,bytes:=8,agg:=false,zero:=[.bot],cty:=[none],ty:=none } bt207
def bt210:BT:=.node BT.leaf 210 { kind:=.struct [(0,9),(1,3)],size:=2,bytes:=24,agg:=true,zero:=[.str [],.int .i64 0],cty:=[none,none],ty:=some (.pair .str (.int .i64)),eqf:=true } BT.leaf
def bt215:BT:=.node bt210 215 { kind:=.sc,size:=1,bytes:=8,agg:=false,zero:=[.int .u64 0],cty:=[none],ty:=some (.int .u64) } BT.leaf
def bt219:BT:=.node BT.leaf 219 { kind:=.other,size:=1,bytes:=8,agg:=false,zero:=[.bot],cty:=[none],ty:=none } BT.leaf
def bt221:BT:=.node bt219 221 { kind:=.struct [(0,122),(1,3),(2,64),(3,3)],size:=4,bytes:=64,agg:=true,zero:=[.nil,.int .i64 0,.nil,.int .i64 0],cty:=[some (130,(.pair (.int .i64) (.pair .str (.pair (.int .i64) (.int .i64))))),none,some (150,(.pair (.int .i64) (.pair (.int .i64) (.pair .str .str)))),none],ty:=some (.pair (.list 130 (.pair (.int .i64) (.pair .str (.pair (.int .i64) (.int .i64))))) (.pair (.int .i64) (.pair (.list 150 (.pair (.int .i64) (.pair (.int .i64) (.pair .str .str)))) (.int .i64)))) } BT.leaf
def bt216:BT:=.node bt215 216 { kind:=.array 11 9,size:=11,bytes:=176,agg:=true,zero:=[.str [],.str [],.str [],.str [],.str [],.str [],.str [],.str [],.str [],.str [],.str []],cty:=[none,none,none,none,none,none,none,none,none,none,none],ty:=none } bt221
def bt208:BT:=.node bt198 208 { kind:=.array 17 9,size:=17,bytes:=272,agg:=true,zero:=[.str [],.str [],.str [],.str [],.str [],.str [],.str [],.str [],.str [],.str [],.str [],.str [],.str [],.str [],.str [],.str [],.str []],cty:=[none,none,none,none,none,none,none,none,none,none,none,none,none,none,none,none,none],ty:=none } bt216
def bt186:BT:=.node bt140 186 { kind:=.array 4 9,size:=4,bytes:=64,agg:=true,zero:=[.str [],.str [],.str [],.str []],cty:=[none,none,none,none],ty:=none } bt208
def bt101:BT:=.node bt33 101 { kind:=.slice 157,size:=1,bytes:=24,agg:=false,zero:=[.nil],cty:=[some (157,(.pair .str (.list 150 (.pair (.int .i64) (.pair (.int .i64) (.pair .str .str))))))],ty:=some (.list 157 (.pair .str (.list 150 (.pair (.int .i64) (.pair (.int .i64) (.pair .str .str)))))) } bt186
def tab:BT:=bt101
def tau:Nat→Option TI:=tab.get
end Go.Proofs.YtccnmhdgghjgoaaGreatDoor.Av
