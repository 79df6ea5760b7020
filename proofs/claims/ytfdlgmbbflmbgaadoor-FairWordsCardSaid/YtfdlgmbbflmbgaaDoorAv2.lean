/- The table of the seat's types,for the abstract evaluator. Conditions: none. -/
import Derived.Test.YtfdlgmbbflmbgaaDoorAv1
namespace Go.Proofs.YtfdlgmbbflmbgaaDoor.Av
open Go
def owL:List (Nat×Nat):=[(72,4)]
def glL:List (Nat×List CV):=[(2,[.str [120],.str [121],.str [122]]),(0,[.str [112],.str [113],.str [114]]),(1,[.str [97],.str [98],.str [99],.str [100]])]
abbrev ty2:Ty:=(.int .i64)
abbrev ty3:Ty:=(.int .i64)
abbrev ty4:Ty:=.bool
abbrev ty9:Ty:=.str
abbrev ty22:Ty:=(.list 3 (.int .i64))
abbrev ty30:Ty:=(.pair (.int .i64) (.pair .str (.pair (.int .i64) (.int .i64))))
abbrev ty33:Ty:=(.list 22 (.list 3 (.int .i64)))
abbrev ty55:Ty:=(.list 4 .bool)
abbrev ty82:Ty:=(.pair .str (.pair (.int .i64) (.pair (.int .i64) (.int .i64))))
abbrev ty85:Ty:=(.pair .str (.list 9 .str))
abbrev ty91:Ty:=(.pair (.int .i64) (.pair .str (.pair .str (.pair .str (.pair .str (.pair (.list 140 (.pair (.int .i64) (.pair (.int .i64) (.pair .str .str)))) (.list 138 (.pair .str (.list 140 (.pair (.int .i64) (.pair (.int .i64) (.pair .str .str))))))))))))
abbrev ty93:Ty:=(.pair (.int .i64) (.list 140 (.pair (.int .i64) (.pair (.int .i64) (.pair .str .str)))))
abbrev ty100:Ty:=(.pair (.pair (.list 3 (.int .i64)) (.list 3 (.int .i64))) (.list 3 (.int .i64)))
abbrev ty138:Ty:=(.pair .str (.list 140 (.pair (.int .i64) (.pair (.int .i64) (.pair .str .str)))))
abbrev ty140:Ty:=(.pair (.int .i64) (.pair (.int .i64) (.pair .str .str)))
abbrev ty167:Ty:=(.pair .str (.int .i64))
def bt1:BT:=.node BT.leaf 1 { kind:=.other,size:=1,bytes:=8,agg:=false,zero:=[.bot],cty:=[none],ty:=none } BT.leaf
def bt2:BT:=.node bt1 2 { kind:=.sc,size:=1,bytes:=8,agg:=false,zero:=[.int .i64 0],cty:=[none],ty:=some (.int .i64) } BT.leaf
def bt4:BT:=.node BT.leaf 4 { kind:=.sc,size:=1,bytes:=1,agg:=false,zero:=[.bool false],cty:=[none],ty:=some .bool } BT.leaf
def bt5:BT:=.node bt4 5 { kind:=.sc,size:=1,bytes:=1,agg:=false,zero:=[.int .u8 0],cty:=[none],ty:=some (.int .u8) } BT.leaf
def bt3:BT:=.node bt2 3 { kind:=.sc,size:=1,bytes:=8,agg:=false,zero:=[.int .i64 0],cty:=[none],ty:=some (.int .i64) } bt5
def bt7:BT:=.node BT.leaf 7 { kind:=.struct [(0,2),(1,3),(2,4),(3,6)],size:=4,bytes:=24,agg:=true,zero:=[.int .i64 0,.int .i64 0,.bool false,.int .u8 0],cty:=[none,none,none,none],ty:=some (.pair (.int .i64) (.pair (.int .i64) (.pair .bool (.int .u8)))) } BT.leaf
def bt8:BT:=.node bt7 8 { kind:=.struct [(0,2),(1,3),(2,4),(3,6)],size:=4,bytes:=24,agg:=true,zero:=[.int .i64 0,.int .i64 0,.bool false,.int .u8 0],cty:=[none,none,none,none],ty:=some (.pair (.int .i64) (.pair (.int .i64) (.pair .bool (.int .u8)))) } BT.leaf
def bt10:BT:=.node BT.leaf 10 { kind:=.sc,size:=1,bytes:=16,agg:=false,zero:=[.str []],cty:=[none],ty:=some .str } BT.leaf
def bt9:BT:=.node bt8 9 { kind:=.sc,size:=1,bytes:=16,agg:=false,zero:=[.str []],cty:=[none],ty:=some .str } bt10
def bt6:BT:=.node bt3 6 { kind:=.sc,size:=1,bytes:=1,agg:=false,zero:=[.int .u8 0],cty:=[none],ty:=some (.int .u8) } bt9
def bt12:BT:=.node BT.leaf 12 { kind:=.sc,size:=1,bytes:=8,agg:=false,zero:=[.int .u64 0],cty:=[none],ty:=some (.int .u64) } BT.leaf
def bt13:BT:=.node bt12 13 { kind:=.struct [(0,9),(1,12)],size:=2,bytes:=24,agg:=true,zero:=[.str [],.int .u64 0],cty:=[none,none],ty:=some (.pair .str (.int .u64)) } BT.leaf
def bt15:BT:=.node BT.leaf 15 { kind:=.other,size:=1,bytes:=8,agg:=false,zero:=[.bot],cty:=[none],ty:=none } BT.leaf
def bt16:BT:=.node bt15 16 { kind:=.other,size:=1,bytes:=8,agg:=false,zero:=[.bot],cty:=[none],ty:=none } BT.leaf
def bt14:BT:=.node bt13 14 { kind:=.struct [(0,9),(1,12)],size:=2,bytes:=24,agg:=true,zero:=[.str [],.int .u64 0],cty:=[none,none],ty:=some (.pair .str (.int .u64)) } bt16
def bt18:BT:=.node BT.leaf 18 { kind:=.struct [(0,17)],size:=1,bytes:=8,agg:=true,zero:=[.bot],cty:=[none],ty:=none } BT.leaf
def bt19:BT:=.node bt18 19 { kind:=.struct [(0,17)],size:=1,bytes:=8,agg:=true,zero:=[.bot],cty:=[none],ty:=none } BT.leaf
def bt22:BT:=.node BT.leaf 22 { kind:=.slice 3,size:=1,bytes:=24,agg:=false,zero:=[.nil],cty:=[some (3,(.int .i64))],ty:=some (.list 3 (.int .i64)) } BT.leaf
def bt21:BT:=.node bt19 21 { kind:=.sc,size:=1,bytes:=4,agg:=false,zero:=[.int .i32 0],cty:=[none],ty:=some (.int .i32) } bt22
def bt17:BT:=.node bt14 17 { kind:=.other,size:=1,bytes:=8,agg:=false,zero:=[.bot],cty:=[none],ty:=none } bt21
def bt11:BT:=.node bt6 11 { kind:=.sc,size:=1,bytes:=16,agg:=false,zero:=[.str []],cty:=[none],ty:=some .str } bt17
def bt24:BT:=.node BT.leaf 24 { kind:=.other,size:=1,bytes:=8,agg:=false,zero:=[.bot],cty:=[none],ty:=none } BT.leaf
def bt25:BT:=.node bt24 25 { kind:=.slice 30,size:=1,bytes:=24,agg:=false,zero:=[.nil],cty:=[some (30,(.pair (.int .i64) (.pair .str (.pair (.int .i64) (.int .i64)))))],ty:=some (.list 30 (.pair (.int .i64) (.pair .str (.pair (.int .i64) (.int .i64))))) } BT.leaf
def bt28:BT:=.node BT.leaf 28 { kind:=.other,size:=1,bytes:=8,agg:=false,zero:=[.bot],cty:=[none],ty:=none } BT.leaf
def bt29:BT:=.node bt28 29 { kind:=.struct [(0,3),(1,9),(2,3),(3,3)],size:=4,bytes:=40,agg:=true,zero:=[.int .i64 0,.str [],.int .i64 0,.int .i64 0],cty:=[none,none,none,none],ty:=some (.pair (.int .i64) (.pair .str (.pair (.int .i64) (.int .i64)))) } BT.leaf
def bt26:BT:=.node bt25 26 { kind:=.sc,size:=1,bytes:=8,agg:=false,zero:=[.int .i64 0],cty:=[none],ty:=some (.int .i64) } bt29
def bt31:BT:=.node BT.leaf 31 { kind:=.other,size:=1,bytes:=8,agg:=false,zero:=[.bot],cty:=[none],ty:=none } BT.leaf
def bt32:BT:=.node bt31 32 { kind:=.other,size:=1,bytes:=8,agg:=false,zero:=[.bot],cty:=[none],ty:=none } BT.leaf
def bt34:BT:=.node BT.leaf 34 { kind:=.struct [(0,3),(1,3),(2,33)],size:=3,bytes:=40,agg:=true,zero:=[.int .i64 0,.int .i64 0,.nil],cty:=[none,none,some (22,(.list 3 (.int .i64)))],ty:=some (.pair (.int .i64) (.pair (.int .i64) (.list 22 (.list 3 (.int .i64))))) } BT.leaf
def bt33:BT:=.node bt32 33 { kind:=.slice 22,size:=1,bytes:=24,agg:=false,zero:=[.nil],cty:=[some (22,(.list 3 (.int .i64)))],ty:=some (.list 22 (.list 3 (.int .i64))) } bt34
def bt30:BT:=.node bt26 30 { kind:=.struct [(0,3),(1,9),(2,3),(3,3)],size:=4,bytes:=40,agg:=true,zero:=[.int .i64 0,.str [],.int .i64 0,.int .i64 0],cty:=[none,none,none,none],ty:=some (.pair (.int .i64) (.pair .str (.pair (.int .i64) (.int .i64)))),eqf:=true } bt33
def bt36:BT:=.node BT.leaf 36 { kind:=.slice 82,size:=1,bytes:=24,agg:=false,zero:=[.nil],cty:=[some (82,(.pair .str (.pair (.int .i64) (.pair (.int .i64) (.int .i64)))))],ty:=some (.list 82 (.pair .str (.pair (.int .i64) (.pair (.int .i64) (.int .i64))))) } BT.leaf
def bt37:BT:=.node bt36 37 { kind:=.slice 85,size:=1,bytes:=24,agg:=false,zero:=[.nil],cty:=[some (85,(.pair .str (.list 9 .str)))],ty:=some (.list 85 (.pair .str (.list 9 .str))) } BT.leaf
def bt39:BT:=.node BT.leaf 39 { kind:=.struct [(0,36),(1,37),(2,38)],size:=3,bytes:=72,agg:=true,zero:=[.nil,.nil,.nil],cty:=[some (82,(.pair .str (.pair (.int .i64) (.pair (.int .i64) (.int .i64))))),some (85,(.pair .str (.list 9 .str))),some (91,(.pair (.int .i64) (.pair .str (.pair .str (.pair .str (.pair .str (.pair (.list 140 (.pair (.int .i64) (.pair (.int .i64) (.pair .str .str)))) (.list 138 (.pair .str (.list 140 (.pair (.int .i64) (.pair (.int .i64) (.pair .str .str)))))))))))))],ty:=some (.pair (.list 82 (.pair .str (.pair (.int .i64) (.pair (.int .i64) (.int .i64))))) (.pair (.list 85 (.pair .str (.list 9 .str))) (.list 91 (.pair (.int .i64) (.pair .str (.pair .str (.pair .str (.pair .str (.pair (.list 140 (.pair (.int .i64) (.pair (.int .i64) (.pair .str .str)))) (.list 138 (.pair .str (.list 140 (.pair (.int .i64) (.pair (.int .i64) (.pair .str .str))))))))))))))) } BT.leaf
def bt38:BT:=.node bt37 38 { kind:=.slice 91,size:=1,bytes:=24,agg:=false,zero:=[.nil],cty:=[some (91,(.pair (.int .i64) (.pair .str (.pair .str (.pair .str (.pair .str (.pair (.list 140 (.pair (.int .i64) (.pair (.int .i64) (.pair .str .str)))) (.list 138 (.pair .str (.list 140 (.pair (.int .i64) (.pair (.int .i64) (.pair .str .str)))))))))))))],ty:=some (.list 91 (.pair (.int .i64) (.pair .str (.pair .str (.pair .str (.pair .str (.pair (.list 140 (.pair (.int .i64) (.pair (.int .i64) (.pair .str .str)))) (.list 138 (.pair .str (.list 140 (.pair (.int .i64) (.pair (.int .i64) (.pair .str .str))))))))))))) } bt39
def bt41:BT:=.node BT.leaf 41 { kind:=.other,size:=1,bytes:=8,agg:=false,zero:=[.bot],cty:=[none],ty:=none } BT.leaf
def bt42:BT:=.node bt41 42 { kind:=.slice 93,size:=1,bytes:=24,agg:=false,zero:=[.nil],cty:=[some (93,(.pair (.int .i64) (.list 140 (.pair (.int .i64) (.pair (.int .i64) (.pair .str .str))))))],ty:=some (.list 93 (.pair (.int .i64) (.list 140 (.pair (.int .i64) (.pair (.int .i64) (.pair .str .str)))))) } BT.leaf
def bt44:BT:=.node BT.leaf 44 { kind:=.other,size:=1,bytes:=8,agg:=false,zero:=[.bot],cty:=[none],ty:=none } BT.leaf
def bt43:BT:=.node bt42 43 { kind:=.other,size:=1,bytes:=8,agg:=false,zero:=[.bot],cty:=[none],ty:=none } bt44
def bt40:BT:=.node bt38 40 { kind:=.struct [(0,36),(1,37),(2,38)],size:=3,bytes:=72,agg:=true,zero:=[.nil,.nil,.nil],cty:=[some (82,(.pair .str (.pair (.int .i64) (.pair (.int .i64) (.int .i64))))),some (85,(.pair .str (.list 9 .str))),some (91,(.pair (.int .i64) (.pair .str (.pair .str (.pair .str (.pair .str (.pair (.list 140 (.pair (.int .i64) (.pair (.int .i64) (.pair .str .str)))) (.list 138 (.pair .str (.list 140 (.pair (.int .i64) (.pair (.int .i64) (.pair .str .str)))))))))))))],ty:=some (.pair (.list 82 (.pair .str (.pair (.int .i64) (.pair (.int .i64) (.int .i64))))) (.pair (.list 85 (.pair .str (.list 9 .str))) (.list 91 (.pair (.int .i64) (.pair .str (.pair .str (.pair .str (.pair .str (.pair (.list 140 (.pair (.int .i64) (.pair (.int .i64) (.pair .str .str)))) (.list 138 (.pair .str (.list 140 (.pair (.int .i64) (.pair (.int .i64) (.pair .str .str))))))))))))))) } bt43
def bt35:BT:=.node bt30 35 { kind:=.struct [(0,3),(1,3),(2,33)],size:=3,bytes:=40,agg:=true,zero:=[.int .i64 0,.int .i64 0,.nil],cty:=[none,none,some (22,(.list 3 (.int .i64)))],ty:=some (.pair (.int .i64) (.pair (.int .i64) (.list 22 (.list 3 (.int .i64))))) } bt40
def bt23:BT:=.node bt11 23 { kind:=.other,size:=1,bytes:=8,agg:=false,zero:=[.bot],cty:=[none],ty:=none } bt35
def bt46:BT:=.node BT.leaf 46 { kind:=.other,size:=1,bytes:=8,agg:=false,zero:=[.bot],cty:=[none],ty:=none } BT.leaf
def bt47:BT:=.node bt46 47 { kind:=.other,size:=1,bytes:=8,agg:=false,zero:=[.bot],cty:=[none],ty:=none } BT.leaf
def bt49:BT:=.node BT.leaf 49 { kind:=.struct [(0,48),(1,48)],size:=2,bytes:=48,agg:=true,zero:=[.nil,.nil],cty:=[some (100,(.pair (.pair (.list 3 (.int .i64)) (.list 3 (.int .i64))) (.list 3 (.int .i64)))),some (100,(.pair (.pair (.list 3 (.int .i64)) (.list 3 (.int .i64))) (.list 3 (.int .i64))))],ty:=some (.pair (.list 100 (.pair (.pair (.list 3 (.int .i64)) (.list 3 (.int .i64))) (.list 3 (.int .i64)))) (.list 100 (.pair (.pair (.list 3 (.int .i64)) (.list 3 (.int .i64))) (.list 3 (.int .i64))))) } BT.leaf
def bt50:BT:=.node bt49 50 { kind:=.struct [(0,48),(1,48)],size:=2,bytes:=48,agg:=true,zero:=[.nil,.nil],cty:=[some (100,(.pair (.pair (.list 3 (.int .i64)) (.list 3 (.int .i64))) (.list 3 (.int .i64)))),some (100,(.pair (.pair (.list 3 (.int .i64)) (.list 3 (.int .i64))) (.list 3 (.int .i64))))],ty:=some (.pair (.list 100 (.pair (.pair (.list 3 (.int .i64)) (.list 3 (.int .i64))) (.list 3 (.int .i64)))) (.list 100 (.pair (.pair (.list 3 (.int .i64)) (.list 3 (.int .i64))) (.list 3 (.int .i64))))) } BT.leaf
def bt48:BT:=.node bt47 48 { kind:=.slice 100,size:=1,bytes:=24,agg:=false,zero:=[.nil],cty:=[some (100,(.pair (.pair (.list 3 (.int .i64)) (.list 3 (.int .i64))) (.list 3 (.int .i64))))],ty:=some (.list 100 (.pair (.pair (.list 3 (.int .i64)) (.list 3 (.int .i64))) (.list 3 (.int .i64)))) } bt50
def bt52:BT:=.node BT.leaf 52 { kind:=.slice 55,size:=1,bytes:=24,agg:=false,zero:=[.nil],cty:=[some (55,(.list 4 .bool))],ty:=some (.list 55 (.list 4 .bool)) } BT.leaf
def bt53:BT:=.node bt52 53 { kind:=.other,size:=1,bytes:=8,agg:=false,zero:=[.bot],cty:=[none],ty:=none } BT.leaf
def bt55:BT:=.node BT.leaf 55 { kind:=.slice 4,size:=1,bytes:=24,agg:=false,zero:=[.nil],cty:=[some (4,.bool)],ty:=some (.list 4 .bool) } BT.leaf
def bt54:BT:=.node bt53 54 { kind:=.other,size:=1,bytes:=8,agg:=false,zero:=[.bot],cty:=[none],ty:=none } bt55
def bt51:BT:=.node bt48 51 { kind:=.other,size:=1,bytes:=8,agg:=false,zero:=[.bot],cty:=[none],ty:=none } bt54
def bt57:BT:=.node BT.leaf 57 { kind:=.other,size:=1,bytes:=8,agg:=false,zero:=[.bot],cty:=[none],ty:=none } BT.leaf
def bt58:BT:=.node bt57 58 { kind:=.other,size:=1,bytes:=8,agg:=false,zero:=[.bot],cty:=[none],ty:=none } BT.leaf
def bt60:BT:=.node BT.leaf 60 { kind:=.other,size:=1,bytes:=8,agg:=false,zero:=[.bot],cty:=[none],ty:=none } BT.leaf
def bt61:BT:=.node bt60 61 { kind:=.other,size:=1,bytes:=8,agg:=false,zero:=[.bot],cty:=[none],ty:=none } BT.leaf
def bt59:BT:=.node bt58 59 { kind:=.other,size:=1,bytes:=8,agg:=false,zero:=[.bot],cty:=[none],ty:=none } bt61
def bt63:BT:=.node BT.leaf 63 { kind:=.other,size:=1,bytes:=8,agg:=false,zero:=[.bot],cty:=[none],ty:=none } BT.leaf
def bt64:BT:=.node bt63 64 { kind:=.other,size:=1,bytes:=8,agg:=false,zero:=[.bot],cty:=[none],ty:=none } BT.leaf
def bt66:BT:=.node BT.leaf 66 { kind:=.other,size:=1,bytes:=8,agg:=false,zero:=[.bot],cty:=[none],ty:=none } BT.leaf
def bt65:BT:=.node bt64 65 { kind:=.other,size:=1,bytes:=8,agg:=false,zero:=[.bot],cty:=[none],ty:=none } bt66
def bt62:BT:=.node bt59 62 { kind:=.slice 5,size:=1,bytes:=24,agg:=false,zero:=[.nil],cty:=[some (5,(.int .u8))],ty:=some (.list 5 (.int .u8)) } bt65
def bt56:BT:=.node bt51 56 { kind:=.other,size:=1,bytes:=8,agg:=false,zero:=[.bot],cty:=[none],ty:=none } bt62
def bt69:BT:=.node BT.leaf 69 { kind:=.other,size:=1,bytes:=8,agg:=false,zero:=[.bot],cty:=[none],ty:=none } BT.leaf
def bt71:BT:=.node bt69 71 { kind:=.other,size:=1,bytes:=8,agg:=false,zero:=[.bot],cty:=[none],ty:=none } BT.leaf
def bt73:BT:=.node BT.leaf 73 { kind:=.other,size:=1,bytes:=8,agg:=false,zero:=[.bot],cty:=[none],ty:=none } BT.leaf
def bt75:BT:=.node bt73 75 { kind:=.other,size:=1,bytes:=8,agg:=false,zero:=[.bot],cty:=[none],ty:=none } BT.leaf
def bt72:BT:=.node bt71 72 { kind:=.other,size:=1,bytes:=8,agg:=false,zero:=[.bot],cty:=[none],ty:=none } bt75
def bt77:BT:=.node BT.leaf 77 { kind:=.struct [(0,22),(1,3)],size:=2,bytes:=32,agg:=true,zero:=[.nil,.int .i64 0],cty:=[some (3,(.int .i64)),none],ty:=some (.pair (.list 3 (.int .i64)) (.int .i64)) } BT.leaf
def bt78:BT:=.node bt77 78 { kind:=.struct [(0,22),(1,3)],size:=2,bytes:=32,agg:=true,zero:=[.nil,.int .i64 0],cty:=[some (3,(.int .i64)),none],ty:=some (.pair (.list 3 (.int .i64)) (.int .i64)) } BT.leaf
def bt80:BT:=.node BT.leaf 80 { kind:=.slice 9,size:=1,bytes:=24,agg:=false,zero:=[.nil],cty:=[some (9,.str)],ty:=some (.list 9 .str) } BT.leaf
def bt79:BT:=.node bt78 79 { kind:=.other,size:=1,bytes:=8,agg:=false,zero:=[.bot],cty:=[none],ty:=none } bt80
def bt76:BT:=.node bt72 76 { kind:=.other,size:=1,bytes:=8,agg:=false,zero:=[.bot],cty:=[none],ty:=none } bt79
def bt82:BT:=.node BT.leaf 82 { kind:=.struct [(0,9),(1,3),(2,3),(3,3)],size:=4,bytes:=40,agg:=true,zero:=[.str [],.int .i64 0,.int .i64 0,.int .i64 0],cty:=[none,none,none,none],ty:=some (.pair .str (.pair (.int .i64) (.pair (.int .i64) (.int .i64)))),eqf:=true } BT.leaf
def bt83:BT:=.node bt82 83 { kind:=.other,size:=1,bytes:=8,agg:=false,zero:=[.bot],cty:=[none],ty:=none } BT.leaf
def bt85:BT:=.node BT.leaf 85 { kind:=.struct [(0,9),(1,80)],size:=2,bytes:=40,agg:=true,zero:=[.str [],.nil],cty:=[none,some (9,.str)],ty:=some (.pair .str (.list 9 .str)) } BT.leaf
def bt84:BT:=.node bt83 84 { kind:=.struct [(0,9),(1,80)],size:=2,bytes:=40,agg:=true,zero:=[.str [],.nil],cty:=[none,some (9,.str)],ty:=some (.pair .str (.list 9 .str)) } bt85
def bt87:BT:=.node BT.leaf 87 { kind:=.other,size:=1,bytes:=8,agg:=false,zero:=[.bot],cty:=[none],ty:=none } BT.leaf
def bt88:BT:=.node bt87 88 { kind:=.slice 140,size:=1,bytes:=24,agg:=false,zero:=[.nil],cty:=[some (140,(.pair (.int .i64) (.pair (.int .i64) (.pair .str .str))))],ty:=some (.list 140 (.pair (.int .i64) (.pair (.int .i64) (.pair .str .str)))) } BT.leaf
def bt90:BT:=.node BT.leaf 90 { kind:=.struct [(0,3),(1,9),(2,9),(3,9),(4,9),(5,88),(6,89)],size:=7,bytes:=120,agg:=true,zero:=[.int .i64 0,.str [],.str [],.str [],.str [],.nil,.nil],cty:=[none,none,none,none,none,some (140,(.pair (.int .i64) (.pair (.int .i64) (.pair .str .str)))),some (138,(.pair .str (.list 140 (.pair (.int .i64) (.pair (.int .i64) (.pair .str .str))))))],ty:=some (.pair (.int .i64) (.pair .str (.pair .str (.pair .str (.pair .str (.pair (.list 140 (.pair (.int .i64) (.pair (.int .i64) (.pair .str .str)))) (.list 138 (.pair .str (.list 140 (.pair (.int .i64) (.pair (.int .i64) (.pair .str .str)))))))))))) } BT.leaf
def bt89:BT:=.node bt88 89 { kind:=.slice 138,size:=1,bytes:=24,agg:=false,zero:=[.nil],cty:=[some (138,(.pair .str (.list 140 (.pair (.int .i64) (.pair (.int .i64) (.pair .str .str))))))],ty:=some (.list 138 (.pair .str (.list 140 (.pair (.int .i64) (.pair (.int .i64) (.pair .str .str)))))) } bt90
def bt86:BT:=.node bt84 86 { kind:=.other,size:=1,bytes:=8,agg:=false,zero:=[.bot],cty:=[none],ty:=none } bt89
def bt81:BT:=.node bt76 81 { kind:=.struct [(0,9),(1,3),(2,3),(3,3)],size:=4,bytes:=40,agg:=true,zero:=[.str [],.int .i64 0,.int .i64 0,.int .i64 0],cty:=[none,none,none,none],ty:=some (.pair .str (.pair (.int .i64) (.pair (.int .i64) (.int .i64)))) } bt86
def bt68:BT:=.node bt56 68 { kind:=.other,size:=1,bytes:=8,agg:=false,zero:=[.bot],cty:=[none],ty:=none } bt81
def bt45:BT:=.node bt23 45 { kind:=.other,size:=1,bytes:=8,agg:=false,zero:=[.bot],cty:=[none],ty:=none } bt68
def bt92:BT:=.node BT.leaf 92 { kind:=.struct [(0,3),(1,88)],size:=2,bytes:=32,agg:=true,zero:=[.int .i64 0,.nil],cty:=[none,some (140,(.pair (.int .i64) (.pair (.int .i64) (.pair .str .str))))],ty:=some (.pair (.int .i64) (.list 140 (.pair (.int .i64) (.pair (.int .i64) (.pair .str .str))))) } BT.leaf
def bt93:BT:=.node bt92 93 { kind:=.struct [(0,3),(1,88)],size:=2,bytes:=32,agg:=true,zero:=[.int .i64 0,.nil],cty:=[none,some (140,(.pair (.int .i64) (.pair (.int .i64) (.pair .str .str))))],ty:=some (.pair (.int .i64) (.list 140 (.pair (.int .i64) (.pair (.int .i64) (.pair .str .str))))) } BT.leaf
def bt95:BT:=.node BT.leaf 95 { kind:=.other,size:=1,bytes:=8,agg:=false,zero:=[.bot],cty:=[none],ty:=none } BT.leaf
def bt96:BT:=.node bt95 96 { kind:=.struct [(0,22),(1,22)],size:=2,bytes:=48,agg:=true,zero:=[.nil,.nil],cty:=[some (3,(.int .i64)),some (3,(.int .i64))],ty:=some (.pair (.list 3 (.int .i64)) (.list 3 (.int .i64))) } BT.leaf
def bt94:BT:=.node bt93 94 { kind:=.other,size:=1,bytes:=8,agg:=false,zero:=[.bot],cty:=[none],ty:=none } bt96
def bt98:BT:=.node BT.leaf 98 { kind:=.other,size:=1,bytes:=8,agg:=false,zero:=[.bot],cty:=[none],ty:=none } BT.leaf
def bt99:BT:=.node bt98 99 { kind:=.struct [(0,97),(2,22)],size:=3,bytes:=72,agg:=true,zero:=[.nil,.nil,.nil],cty:=[some (3,(.int .i64)),some (3,(.int .i64)),some (3,(.int .i64))],ty:=some (.pair (.pair (.list 3 (.int .i64)) (.list 3 (.int .i64))) (.list 3 (.int .i64))) } BT.leaf
def bt101:BT:=.node BT.leaf 101 { kind:=.other,size:=1,bytes:=8,agg:=false,zero:=[.bot],cty:=[none],ty:=none } BT.leaf
def bt100:BT:=.node bt99 100 { kind:=.struct [(0,97),(2,22)],size:=3,bytes:=72,agg:=true,zero:=[.nil,.nil,.nil],cty:=[some (3,(.int .i64)),some (3,(.int .i64)),some (3,(.int .i64))],ty:=some (.pair (.pair (.list 3 (.int .i64)) (.list 3 (.int .i64))) (.list 3 (.int .i64))) } bt101
def bt97:BT:=.node bt94 97 { kind:=.struct [(0,22),(1,22)],size:=2,bytes:=48,agg:=true,zero:=[.nil,.nil],cty:=[some (3,(.int .i64)),some (3,(.int .i64))],ty:=some (.pair (.list 3 (.int .i64)) (.list 3 (.int .i64))) } bt100
def bt103:BT:=.node BT.leaf 103 { kind:=.other,size:=1,bytes:=8,agg:=false,zero:=[.bot],cty:=[none],ty:=none } BT.leaf
def bt104:BT:=.node bt103 104 { kind:=.other,size:=1,bytes:=8,agg:=false,zero:=[.bot],cty:=[none],ty:=none } BT.leaf
def bt106:BT:=.node BT.leaf 106 { kind:=.array 17 9,size:=17,bytes:=272,agg:=true,zero:=[.str [],.str [],.str [],.str [],.str [],.str [],.str [],.str [],.str [],.str [],.str [],.str [],.str [],.str [],.str [],.str [],.str []],cty:=[none,none,none,none,none,none,none,none,none,none,none,none,none,none,none,none,none],ty:=none } BT.leaf
def bt107:BT:=.node bt106 107 { kind:=.array 3 9,size:=3,bytes:=48,agg:=true,zero:=[.str [],.str [],.str []],cty:=[none,none,none],ty:=none } BT.leaf
def bt105:BT:=.node bt104 105 { kind:=.other,size:=1,bytes:=8,agg:=false,zero:=[.bot],cty:=[none],ty:=none } bt107
def bt109:BT:=.node BT.leaf 109 { kind:=.array 4 9,size:=4,bytes:=64,agg:=true,zero:=[.str [],.str [],.str [],.str []],cty:=[none,none,none,none],ty:=none } BT.leaf
def bt110:BT:=.node bt109 110 { kind:=.array 8 9,size:=8,bytes:=128,agg:=true,zero:=[.str [],.str [],.str [],.str [],.str [],.str [],.str [],.str []],cty:=[none,none,none,none,none,none,none,none],ty:=none } BT.leaf
def bt112:BT:=.node BT.leaf 112 { kind:=.array 4 3,size:=4,bytes:=32,agg:=true,zero:=[.int .i64 0,.int .i64 0,.int .i64 0,.int .i64 0],cty:=[none,none,none,none],ty:=none } BT.leaf
def bt111:BT:=.node bt110 111 { kind:=.other,size:=1,bytes:=8,agg:=false,zero:=[.bot],cty:=[none],ty:=none } bt112
def bt108:BT:=.node bt105 108 { kind:=.other,size:=1,bytes:=8,agg:=false,zero:=[.bot],cty:=[none],ty:=none } bt111
def bt102:BT:=.node bt97 102 { kind:=.other,size:=1,bytes:=8,agg:=false,zero:=[.bot],cty:=[none],ty:=none } bt108
def bt114:BT:=.node BT.leaf 114 { kind:=.other,size:=1,bytes:=8,agg:=false,zero:=[.bot],cty:=[none],ty:=none } BT.leaf
def bt115:BT:=.node bt114 115 { kind:=.other,size:=1,bytes:=8,agg:=false,zero:=[.bot],cty:=[none],ty:=none } BT.leaf
def bt117:BT:=.node BT.leaf 117 { kind:=.array 9 9,size:=9,bytes:=144,agg:=true,zero:=[.str [],.str [],.str [],.str [],.str [],.str [],.str [],.str [],.str []],cty:=[none,none,none,none,none,none,none,none,none],ty:=none } BT.leaf
def bt118:BT:=.node bt117 118 { kind:=.other,size:=1,bytes:=8,agg:=false,zero:=[.bot],cty:=[none],ty:=none } BT.leaf
def bt116:BT:=.node bt115 116 { kind:=.other,size:=1,bytes:=8,agg:=false,zero:=[.bot],cty:=[none],ty:=none } bt118
def bt121:BT:=.node BT.leaf 121 { kind:=.other,size:=1,bytes:=8,agg:=false,zero:=[.bot],cty:=[none],ty:=none } BT.leaf
def bt123:BT:=.node bt121 123 { kind:=.other,size:=1,bytes:=8,agg:=false,zero:=[.bot],cty:=[none],ty:=none } BT.leaf
def bt125:BT:=.node BT.leaf 125 { kind:=.array 2 9,size:=2,bytes:=32,agg:=true,zero:=[.str [],.str []],cty:=[none,none],ty:=none } BT.leaf
def bt124:BT:=.node bt123 124 { kind:=.other,size:=1,bytes:=8,agg:=false,zero:=[.bot],cty:=[none],ty:=none } bt125
def bt119:BT:=.node bt116 119 { kind:=.other,size:=1,bytes:=8,agg:=false,zero:=[.bot],cty:=[none],ty:=none } bt124
def bt127:BT:=.node BT.leaf 127 { kind:=.other,size:=1,bytes:=8,agg:=false,zero:=[.bot],cty:=[none],ty:=none } BT.leaf
def bt128:BT:=.node bt127 128 { kind:=.struct [(0,25),(1,3),(2,42),(3,26),(4,3)],size:=5,bytes:=72,agg:=true,zero:=[.nil,.int .i64 0,.nil,.int .i64 0,.int .i64 0],cty:=[some (30,(.pair (.int .i64) (.pair .str (.pair (.int .i64) (.int .i64))))),none,some (93,(.pair (.int .i64) (.list 140 (.pair (.int .i64) (.pair (.int .i64) (.pair .str .str)))))),none,none],ty:=some (.pair (.list 30 (.pair (.int .i64) (.pair .str (.pair (.int .i64) (.int .i64))))) (.pair (.int .i64) (.pair (.list 93 (.pair (.int .i64) (.list 140 (.pair (.int .i64) (.pair (.int .i64) (.pair .str .str)))))) (.pair (.int .i64) (.int .i64))))) } BT.leaf
def bt130:BT:=.node BT.leaf 130 { kind:=.other,size:=1,bytes:=8,agg:=false,zero:=[.bot],cty:=[none],ty:=none } BT.leaf
def bt129:BT:=.node bt128 129 { kind:=.struct [(0,25),(1,3),(2,42),(3,26),(4,3)],size:=5,bytes:=72,agg:=true,zero:=[.nil,.int .i64 0,.nil,.int .i64 0,.int .i64 0],cty:=[some (30,(.pair (.int .i64) (.pair .str (.pair (.int .i64) (.int .i64))))),none,some (93,(.pair (.int .i64) (.list 140 (.pair (.int .i64) (.pair (.int .i64) (.pair .str .str)))))),none,none],ty:=some (.pair (.list 30 (.pair (.int .i64) (.pair .str (.pair (.int .i64) (.int .i64))))) (.pair (.int .i64) (.pair (.list 93 (.pair (.int .i64) (.list 140 (.pair (.int .i64) (.pair (.int .i64) (.pair .str .str)))))) (.pair (.int .i64) (.int .i64))))) } bt130
def bt132:BT:=.node BT.leaf 132 { kind:=.array 6 9,size:=6,bytes:=96,agg:=true,zero:=[.str [],.str [],.str [],.str [],.str [],.str []],cty:=[none,none,none,none,none,none],ty:=none } BT.leaf
def bt133:BT:=.node bt132 133 { kind:=.other,size:=1,bytes:=8,agg:=false,zero:=[.bot],cty:=[none],ty:=none } BT.leaf
def bt136:BT:=.node BT.leaf 136 { kind:=.other,size:=1,bytes:=8,agg:=false,zero:=[.bot],cty:=[none],ty:=none } BT.leaf
def bt135:BT:=.node bt133 135 { kind:=.other,size:=1,bytes:=8,agg:=false,zero:=[.bot],cty:=[none],ty:=none } bt136
def bt131:BT:=.node bt129 131 { kind:=.other,size:=1,bytes:=8,agg:=false,zero:=[.bot],cty:=[none],ty:=none } bt135
def bt126:BT:=.node bt119 126 { kind:=.other,size:=1,bytes:=8,agg:=false,zero:=[.bot],cty:=[none],ty:=none } bt131
def bt113:BT:=.node bt102 113 { kind:=.other,size:=1,bytes:=8,agg:=false,zero:=[.bot],cty:=[none],ty:=none } bt126
def bt138:BT:=.node BT.leaf 138 { kind:=.struct [(0,9),(1,88)],size:=2,bytes:=40,agg:=true,zero:=[.str [],.nil],cty:=[none,some (140,(.pair (.int .i64) (.pair (.int .i64) (.pair .str .str))))],ty:=some (.pair .str (.list 140 (.pair (.int .i64) (.pair (.int .i64) (.pair .str .str))))) } BT.leaf
def bt139:BT:=.node bt138 139 { kind:=.struct [(0,3),(1,3),(2,9),(3,9)],size:=4,bytes:=48,agg:=true,zero:=[.int .i64 0,.int .i64 0,.str [],.str []],cty:=[none,none,none,none],ty:=some (.pair (.int .i64) (.pair (.int .i64) (.pair .str .str))) } BT.leaf
def bt141:BT:=.node BT.leaf 141 { kind:=.other,size:=1,bytes:=8,agg:=false,zero:=[.bot],cty:=[none],ty:=none } BT.leaf
def bt142:BT:=.node bt141 142 { kind:=.other,size:=1,bytes:=8,agg:=false,zero:=[.bot],cty:=[none],ty:=none } BT.leaf
def bt140:BT:=.node bt139 140 { kind:=.struct [(0,3),(1,3),(2,9),(3,9)],size:=4,bytes:=48,agg:=true,zero:=[.int .i64 0,.int .i64 0,.str [],.str []],cty:=[none,none,none,none],ty:=some (.pair (.int .i64) (.pair (.int .i64) (.pair .str .str))),eqf:=true } bt142
def bt144:BT:=.node BT.leaf 144 { kind:=.other,size:=1,bytes:=8,agg:=false,zero:=[.bot],cty:=[none],ty:=none } BT.leaf
def bt145:BT:=.node bt144 145 { kind:=.other,size:=1,bytes:=8,agg:=false,zero:=[.bot],cty:=[none],ty:=none } BT.leaf
def bt147:BT:=.node BT.leaf 147 { kind:=.other,size:=1,bytes:=8,agg:=false,zero:=[.bot],cty:=[none],ty:=none } BT.leaf
def bt146:BT:=.node bt145 146 { kind:=.array 11 9,size:=11,bytes:=176,agg:=true,zero:=[.str [],.str [],.str [],.str [],.str [],.str [],.str [],.str [],.str [],.str [],.str []],cty:=[none,none,none,none,none,none,none,none,none,none,none],ty:=none } bt147
def bt143:BT:=.node bt140 143 { kind:=.other,size:=1,bytes:=8,agg:=false,zero:=[.bot],cty:=[none],ty:=none } bt146
def bt151:BT:=.node BT.leaf 151 { kind:=.other,size:=1,bytes:=8,agg:=false,zero:=[.bot],cty:=[none],ty:=none } BT.leaf
def bt152:BT:=.node bt151 152 { kind:=.other,size:=1,bytes:=8,agg:=false,zero:=[.bot],cty:=[none],ty:=none } BT.leaf
def bt155:BT:=.node BT.leaf 155 { kind:=.other,size:=1,bytes:=8,agg:=false,zero:=[.bot],cty:=[none],ty:=none } BT.leaf
def bt154:BT:=.node bt152 154 { kind:=.other,size:=1,bytes:=8,agg:=false,zero:=[.bot],cty:=[none],ty:=none } bt155
def bt157:BT:=.node BT.leaf 157 { kind:=.other,size:=1,bytes:=8,agg:=false,zero:=[.bot],cty:=[none],ty:=none } BT.leaf
def bt158:BT:=.node bt157 158 { kind:=.other,size:=1,bytes:=8,agg:=false,zero:=[.bot],cty:=[none],ty:=none } BT.leaf
def bt160:BT:=.node BT.leaf 160 { kind:=.other,size:=1,bytes:=8,agg:=false,zero:=[.bot],cty:=[none],ty:=none } BT.leaf
def bt159:BT:=.node bt158 159 { kind:=.sc,size:=1,bytes:=8,agg:=false,zero:=[.int .u64 0],cty:=[none],ty:=some (.int .u64) } bt160
def bt156:BT:=.node bt154 156 { kind:=.other,size:=1,bytes:=8,agg:=false,zero:=[.bot],cty:=[none],ty:=none } bt159
def bt149:BT:=.node bt143 149 { kind:=.other,size:=1,bytes:=8,agg:=false,zero:=[.bot],cty:=[none],ty:=none } bt156
def bt162:BT:=.node BT.leaf 162 { kind:=.other,size:=1,bytes:=8,agg:=false,zero:=[.bot],cty:=[none],ty:=none } BT.leaf
def bt163:BT:=.node bt162 163 { kind:=.struct [(0,25),(1,3),(2,88),(3,3)],size:=4,bytes:=64,agg:=true,zero:=[.nil,.int .i64 0,.nil,.int .i64 0],cty:=[some (30,(.pair (.int .i64) (.pair .str (.pair (.int .i64) (.int .i64))))),none,some (140,(.pair (.int .i64) (.pair (.int .i64) (.pair .str .str)))),none],ty:=some (.pair (.list 30 (.pair (.int .i64) (.pair .str (.pair (.int .i64) (.int .i64))))) (.pair (.int .i64) (.pair (.list 140 (.pair (.int .i64) (.pair (.int .i64) (.pair .str .str)))) (.int .i64)))) } BT.leaf
def bt165:BT:=.node BT.leaf 165 { kind:=.slice 167,size:=1,bytes:=24,agg:=false,zero:=[.nil],cty:=[some (167,(.pair .str (.int .i64)))],ty:=some (.list 167 (.pair .str (.int .i64))) } BT.leaf
def bt166:BT:=.node bt165 166 { kind:=.struct [(0,9),(1,3)],size:=2,bytes:=24,agg:=true,zero:=[.str [],.int .i64 0],cty:=[none,none],ty:=some (.pair .str (.int .i64)) } BT.leaf
def bt164:BT:=.node bt163 164 { kind:=.struct [(0,25),(1,3),(2,88),(3,3)],size:=4,bytes:=64,agg:=true,zero:=[.nil,.int .i64 0,.nil,.int .i64 0],cty:=[some (30,(.pair (.int .i64) (.pair .str (.pair (.int .i64) (.int .i64))))),none,some (140,(.pair (.int .i64) (.pair (.int .i64) (.pair .str .str)))),none],ty:=some (.pair (.list 30 (.pair (.int .i64) (.pair .str (.pair (.int .i64) (.int .i64))))) (.pair (.int .i64) (.pair (.list 140 (.pair (.int .i64) (.pair (.int .i64) (.pair .str .str)))) (.int .i64)))) } bt166
def bt168:BT:=.node BT.leaf 168 { kind:=.other,size:=1,bytes:=8,agg:=false,zero:=[.bot],cty:=[none],ty:=none } BT.leaf
def bt169:BT:=.node bt168 169 { kind:=.other,size:=1,bytes:=8,agg:=false,zero:=[.bot],cty:=[none],ty:=none } BT.leaf
def bt171:BT:=.node BT.leaf 171 { kind:=.struct [(0,17),(1,17),(2,17),(3,9)],size:=4,bytes:=40,agg:=true,zero:=[.bot,.bot,.bot,.str []],cty:=[none,none,none,none],ty:=none } BT.leaf
def bt170:BT:=.node bt169 170 { kind:=.struct [(0,17),(1,17),(2,17),(3,9)],size:=4,bytes:=40,agg:=true,zero:=[.bot,.bot,.bot,.str []],cty:=[none,none,none,none],ty:=none } bt171
def bt167:BT:=.node bt164 167 { kind:=.struct [(0,9),(1,3)],size:=2,bytes:=24,agg:=true,zero:=[.str [],.int .i64 0],cty:=[none,none],ty:=some (.pair .str (.int .i64)),eqf:=true } bt170
def bt176:BT:=.node BT.leaf 176 { kind:=.sc,size:=1,bytes:=4,agg:=false,zero:=[.int .u32 0],cty:=[none],ty:=some (.int .u32) } BT.leaf
def bt177:BT:=.node bt176 177 { kind:=.sc,size:=1,bytes:=1,agg:=false,zero:=[.int .u8 0],cty:=[none],ty:=some (.int .u8) } BT.leaf
def bt179:BT:=.node BT.leaf 179 { kind:=.other,size:=1,bytes:=8,agg:=false,zero:=[.bot],cty:=[none],ty:=none } BT.leaf
def bt178:BT:=.node bt177 178 { kind:=.sc,size:=1,bytes:=1,agg:=false,zero:=[.int .u8 0],cty:=[none],ty:=some (.int .u8) } bt179
def bt181:BT:=.node BT.leaf 181 { kind:=.sc,size:=1,bytes:=4,agg:=false,zero:=[.int .i32 0],cty:=[none],ty:=some (.int .i32) } BT.leaf
def bt182:BT:=.node bt181 182 { kind:=.sc,size:=1,bytes:=4,agg:=false,zero:=[.int .i32 0],cty:=[none],ty:=some (.int .i32) } BT.leaf
def bt184:BT:=.node BT.leaf 184 { kind:=.struct [(0,12),(1,12),(2,176),(3,177),(4,5),(5,5),(6,178),(7,179),(8,180),(9,181),(10,182)],size:=11,bytes:=48,agg:=true,zero:=[.int .u64 0,.int .u64 0,.int .u32 0,.int .u8 0,.int .u8 0,.int .u8 0,.int .u8 0,.bot,.bot,.int .i32 0,.int .i32 0],cty:=[none,none,none,none,none,none,none,none,none,none,none],ty:=none } BT.leaf
def bt183:BT:=.node bt182 183 { kind:=.struct [(0,12),(1,12),(2,176),(3,177),(4,5),(5,5),(6,178),(7,179),(8,180),(9,181),(10,182)],size:=11,bytes:=48,agg:=true,zero:=[.int .u64 0,.int .u64 0,.int .u32 0,.int .u8 0,.int .u8 0,.int .u8 0,.int .u8 0,.bot,.bot,.int .i32 0,.int .i32 0],cty:=[none,none,none,none,none,none,none,none,none,none,none],ty:=none } bt184
def bt180:BT:=.node bt178 180 { kind:=.other,size:=1,bytes:=8,agg:=false,zero:=[.bot],cty:=[none],ty:=none } bt183
def bt175:BT:=.node bt167 175 { kind:=.other,size:=1,bytes:=8,agg:=false,zero:=[.bot],cty:=[none],ty:=none } bt180
def bt161:BT:=.node bt149 161 { kind:=.other,size:=1,bytes:=8,agg:=false,zero:=[.bot],cty:=[none],ty:=none } bt175
def bt137:BT:=.node bt113 137 { kind:=.struct [(0,9),(1,88)],size:=2,bytes:=40,agg:=true,zero:=[.str [],.nil],cty:=[none,some (140,(.pair (.int .i64) (.pair (.int .i64) (.pair .str .str))))],ty:=some (.pair .str (.list 140 (.pair (.int .i64) (.pair (.int .i64) (.pair .str .str))))) } bt161
def bt91:BT:=.node bt45 91 { kind:=.struct [(0,3),(1,9),(2,9),(3,9),(4,9),(5,88),(6,89)],size:=7,bytes:=120,agg:=true,zero:=[.int .i64 0,.str [],.str [],.str [],.str [],.nil,.nil],cty:=[none,none,none,none,none,some (140,(.pair (.int .i64) (.pair (.int .i64) (.pair .str .str)))),some (138,(.pair .str (.list 140 (.pair (.int .i64) (.pair (.int .i64) (.pair .str .str))))))],ty:=some (.pair (.int .i64) (.pair .str (.pair .str (.pair .str (.pair .str (.pair (.list 140 (.pair (.int .i64) (.pair (.int .i64) (.pair .str .str)))) (.list 138 (.pair .str (.list 140 (.pair (.int .i64) (.pair (.int .i64) (.pair .str .str)))))))))))) } bt137
def tab:BT:=bt91
def tau:Nat→Option TI:=tab.get
end Go.Proofs.YtfdlgmbbflmbgaaDoor.Av
