/- The table of the seat's types,for the abstract evaluator. Conditions: none. -/
import Derived.Test.YtccnmhdgghjgoaaGreatDoorAv1
namespace Go.Proofs.YtccnmhdgghjgoaaGreatDoor.Av
open Go
def owL:List (Nat×Nat):=[(93,4),(124,1000),(160,1000)]
def glL:List (Nat×List CV):=[(0,[.str [120],.str [121],.str [122]]),(1,[.str [112],.str [113],.str [114]]),(2,[.str [97],.str [98],.str [99],.str [100]])]
abbrev ty2:Ty:=(.int .i64)
abbrev ty3:Ty:=(.int .i64)
abbrev ty4:Ty:=.bool
abbrev ty9:Ty:=.str
abbrev ty22:Ty:=(.list 3 (.int .i64))
abbrev ty23:Ty:=(.list 22 (.list 3 (.int .i64)))
abbrev ty47:Ty:=(.list 4 .bool)
abbrev ty66:Ty:=(.pair (.int .i64) (.list 150 (.pair (.int .i64) (.pair (.int .i64) (.pair .str .str)))))
abbrev ty68:Ty:=(.pair (.pair (.list 3 (.int .i64)) (.list 3 (.int .i64))) (.list 3 (.int .i64)))
abbrev ty94:Ty:=(.pair .str (.pair (.int .i64) (.pair (.int .i64) (.int .i64))))
abbrev ty98:Ty:=(.pair .str (.list 9 .str))
abbrev ty103:Ty:=(.pair (.int .i64) (.pair .str (.pair .str (.pair .str (.pair .str (.pair (.list 150 (.pair (.int .i64) (.pair (.int .i64) (.pair .str .str)))) (.list 157 (.pair .str (.list 150 (.pair (.int .i64) (.pair (.int .i64) (.pair .str .str))))))))))))
abbrev ty130:Ty:=(.pair (.int .i64) (.pair .str (.pair (.int .i64) (.int .i64))))
abbrev ty150:Ty:=(.pair (.int .i64) (.pair (.int .i64) (.pair .str .str)))
abbrev ty157:Ty:=(.pair .str (.list 150 (.pair (.int .i64) (.pair (.int .i64) (.pair .str .str)))))
abbrev ty210:Ty:=(.pair .str (.int .i64))
def bt1:BT:=.node BT.leaf 1 { kind:=.other,size:=1,bytes:=8,agg:=false,zero:=[.bot],cty:=[none],ty:=none } BT.leaf
def bt3:BT:=.node BT.leaf 3 { kind:=.sc,size:=1,bytes:=8,agg:=false,zero:=[.int .i64 0],cty:=[none],ty:=some (.int .i64) } BT.leaf
def bt2:BT:=.node bt1 2 { kind:=.sc,size:=1,bytes:=8,agg:=false,zero:=[.int .i64 0],cty:=[none],ty:=some (.int .i64) } bt3
def bt5:BT:=.node BT.leaf 5 { kind:=.sc,size:=1,bytes:=1,agg:=false,zero:=[.int .u8 0],cty:=[none],ty:=some (.int .u8) } BT.leaf
def bt6:BT:=.node bt5 6 { kind:=.sc,size:=1,bytes:=1,agg:=false,zero:=[.int .u8 0],cty:=[none],ty:=some (.int .u8) } BT.leaf
def bt4:BT:=.node bt2 4 { kind:=.sc,size:=1,bytes:=1,agg:=false,zero:=[.bool false],cty:=[none],ty:=some .bool } bt6
def bt8:BT:=.node BT.leaf 8 { kind:=.struct [(0,2),(1,3),(2,4),(3,6)],size:=4,bytes:=24,agg:=true,zero:=[.int .i64 0,.int .i64 0,.bool false,.int .u8 0],cty:=[none,none,none,none],ty:=some (.pair (.int .i64) (.pair (.int .i64) (.pair .bool (.int .u8)))) } BT.leaf
def bt10:BT:=.node BT.leaf 10 { kind:=.sc,size:=1,bytes:=16,agg:=false,zero:=[.str []],cty:=[none],ty:=some .str } BT.leaf
def bt9:BT:=.node bt8 9 { kind:=.sc,size:=1,bytes:=16,agg:=false,zero:=[.str []],cty:=[none],ty:=some .str } bt10
def bt12:BT:=.node BT.leaf 12 { kind:=.sc,size:=1,bytes:=8,agg:=false,zero:=[.int .u64 0],cty:=[none],ty:=some (.int .u64) } BT.leaf
def bt13:BT:=.node bt12 13 { kind:=.struct [(0,9),(1,12)],size:=2,bytes:=24,agg:=true,zero:=[.str [],.int .u64 0],cty:=[none,none],ty:=some (.pair .str (.int .u64)) } BT.leaf
def bt11:BT:=.node bt9 11 { kind:=.sc,size:=1,bytes:=16,agg:=false,zero:=[.str []],cty:=[none],ty:=some .str } bt13
def bt7:BT:=.node bt4 7 { kind:=.struct [(0,2),(1,3),(2,4),(3,6)],size:=4,bytes:=24,agg:=true,zero:=[.int .i64 0,.int .i64 0,.bool false,.int .u8 0],cty:=[none,none,none,none],ty:=some (.pair (.int .i64) (.pair (.int .i64) (.pair .bool (.int .u8)))) } bt11
def bt15:BT:=.node BT.leaf 15 { kind:=.other,size:=1,bytes:=8,agg:=false,zero:=[.bot],cty:=[none],ty:=none } BT.leaf
def bt17:BT:=.node BT.leaf 17 { kind:=.other,size:=1,bytes:=8,agg:=false,zero:=[.bot],cty:=[none],ty:=none } BT.leaf
def bt16:BT:=.node bt15 16 { kind:=.other,size:=1,bytes:=8,agg:=false,zero:=[.bot],cty:=[none],ty:=none } bt17
def bt19:BT:=.node BT.leaf 19 { kind:=.struct [(0,17)],size:=1,bytes:=8,agg:=true,zero:=[.bot],cty:=[none],ty:=none } BT.leaf
def bt21:BT:=.node bt19 21 { kind:=.sc,size:=1,bytes:=4,agg:=false,zero:=[.int .i32 0],cty:=[none],ty:=some (.int .i32) } BT.leaf
def bt18:BT:=.node bt16 18 { kind:=.struct [(0,17)],size:=1,bytes:=8,agg:=true,zero:=[.bot],cty:=[none],ty:=none } bt21
def bt23:BT:=.node BT.leaf 23 { kind:=.slice 22,size:=1,bytes:=24,agg:=false,zero:=[.nil],cty:=[some (22,(.list 3 (.int .i64)))],ty:=some (.list 22 (.list 3 (.int .i64))) } BT.leaf
def bt25:BT:=.node BT.leaf 25 { kind:=.struct [(0,3),(1,3),(2,23)],size:=3,bytes:=40,agg:=true,zero:=[.int .i64 0,.int .i64 0,.nil],cty:=[none,none,some (22,(.list 3 (.int .i64)))],ty:=some (.pair (.int .i64) (.pair (.int .i64) (.list 22 (.list 3 (.int .i64))))) } BT.leaf
def bt24:BT:=.node bt23 24 { kind:=.struct [(0,3),(1,3),(2,23)],size:=3,bytes:=40,agg:=true,zero:=[.int .i64 0,.int .i64 0,.nil],cty:=[none,none,some (22,(.list 3 (.int .i64)))],ty:=some (.pair (.int .i64) (.pair (.int .i64) (.list 22 (.list 3 (.int .i64))))) } bt25
def bt27:BT:=.node BT.leaf 27 { kind:=.slice 94,size:=1,bytes:=24,agg:=false,zero:=[.nil],cty:=[some (94,(.pair .str (.pair (.int .i64) (.pair (.int .i64) (.int .i64)))))],ty:=some (.list 94 (.pair .str (.pair (.int .i64) (.pair (.int .i64) (.int .i64))))) } BT.leaf
def bt28:BT:=.node bt27 28 { kind:=.slice 98,size:=1,bytes:=24,agg:=false,zero:=[.nil],cty:=[some (98,(.pair .str (.list 9 .str)))],ty:=some (.list 98 (.pair .str (.list 9 .str))) } BT.leaf
def bt26:BT:=.node bt24 26 { kind:=.other,size:=1,bytes:=8,agg:=false,zero:=[.bot],cty:=[none],ty:=none } bt28
def bt22:BT:=.node bt18 22 { kind:=.slice 3,size:=1,bytes:=24,agg:=false,zero:=[.nil],cty:=[some (3,(.int .i64))],ty:=some (.list 3 (.int .i64)) } bt26
def bt14:BT:=.node bt7 14 { kind:=.struct [(0,9),(1,12)],size:=2,bytes:=24,agg:=true,zero:=[.str [],.int .u64 0],cty:=[none,none],ty:=some (.pair .str (.int .u64)) } bt22
def bt30:BT:=.node BT.leaf 30 { kind:=.struct [(0,27),(1,28),(2,29)],size:=3,bytes:=72,agg:=true,zero:=[.nil,.nil,.nil],cty:=[some (94,(.pair .str (.pair (.int .i64) (.pair (.int .i64) (.int .i64))))),some (98,(.pair .str (.list 9 .str))),some (103,(.pair (.int .i64) (.pair .str (.pair .str (.pair .str (.pair .str (.pair (.list 150 (.pair (.int .i64) (.pair (.int .i64) (.pair .str .str)))) (.list 157 (.pair .str (.list 150 (.pair (.int .i64) (.pair (.int .i64) (.pair .str .str)))))))))))))],ty:=some (.pair (.list 94 (.pair .str (.pair (.int .i64) (.pair (.int .i64) (.int .i64))))) (.pair (.list 98 (.pair .str (.list 9 .str))) (.list 103 (.pair (.int .i64) (.pair .str (.pair .str (.pair .str (.pair .str (.pair (.list 150 (.pair (.int .i64) (.pair (.int .i64) (.pair .str .str)))) (.list 157 (.pair .str (.list 150 (.pair (.int .i64) (.pair (.int .i64) (.pair .str .str))))))))))))))) } BT.leaf
def bt32:BT:=.node BT.leaf 32 { kind:=.other,size:=1,bytes:=8,agg:=false,zero:=[.bot],cty:=[none],ty:=none } BT.leaf
def bt31:BT:=.node bt30 31 { kind:=.struct [(0,27),(1,28),(2,29)],size:=3,bytes:=72,agg:=true,zero:=[.nil,.nil,.nil],cty:=[some (94,(.pair .str (.pair (.int .i64) (.pair (.int .i64) (.int .i64))))),some (98,(.pair .str (.list 9 .str))),some (103,(.pair (.int .i64) (.pair .str (.pair .str (.pair .str (.pair .str (.pair (.list 150 (.pair (.int .i64) (.pair (.int .i64) (.pair .str .str)))) (.list 157 (.pair .str (.list 150 (.pair (.int .i64) (.pair (.int .i64) (.pair .str .str)))))))))))))],ty:=some (.pair (.list 94 (.pair .str (.pair (.int .i64) (.pair (.int .i64) (.int .i64))))) (.pair (.list 98 (.pair .str (.list 9 .str))) (.list 103 (.pair (.int .i64) (.pair .str (.pair .str (.pair .str (.pair .str (.pair (.list 150 (.pair (.int .i64) (.pair (.int .i64) (.pair .str .str)))) (.list 157 (.pair .str (.list 150 (.pair (.int .i64) (.pair (.int .i64) (.pair .str .str))))))))))))))) } bt32
def bt34:BT:=.node BT.leaf 34 { kind:=.other,size:=1,bytes:=8,agg:=false,zero:=[.bot],cty:=[none],ty:=none } BT.leaf
def bt35:BT:=.node bt34 35 { kind:=.other,size:=1,bytes:=8,agg:=false,zero:=[.bot],cty:=[none],ty:=none } BT.leaf
def bt33:BT:=.node bt31 33 { kind:=.slice 66,size:=1,bytes:=24,agg:=false,zero:=[.nil],cty:=[some (66,(.pair (.int .i64) (.list 150 (.pair (.int .i64) (.pair (.int .i64) (.pair .str .str))))))],ty:=some (.list 66 (.pair (.int .i64) (.list 150 (.pair (.int .i64) (.pair (.int .i64) (.pair .str .str)))))) } bt35
def bt37:BT:=.node BT.leaf 37 { kind:=.other,size:=1,bytes:=8,agg:=false,zero:=[.bot],cty:=[none],ty:=none } BT.leaf
def bt39:BT:=.node BT.leaf 39 { kind:=.slice 68,size:=1,bytes:=24,agg:=false,zero:=[.nil],cty:=[some (68,(.pair (.pair (.list 3 (.int .i64)) (.list 3 (.int .i64))) (.list 3 (.int .i64))))],ty:=some (.list 68 (.pair (.pair (.list 3 (.int .i64)) (.list 3 (.int .i64))) (.list 3 (.int .i64)))) } BT.leaf
def bt38:BT:=.node bt37 38 { kind:=.other,size:=1,bytes:=8,agg:=false,zero:=[.bot],cty:=[none],ty:=none } bt39
def bt41:BT:=.node BT.leaf 41 { kind:=.struct [(0,39),(1,39)],size:=2,bytes:=48,agg:=true,zero:=[.nil,.nil],cty:=[some (68,(.pair (.pair (.list 3 (.int .i64)) (.list 3 (.int .i64))) (.list 3 (.int .i64)))),some (68,(.pair (.pair (.list 3 (.int .i64)) (.list 3 (.int .i64))) (.list 3 (.int .i64))))],ty:=some (.pair (.list 68 (.pair (.pair (.list 3 (.int .i64)) (.list 3 (.int .i64))) (.list 3 (.int .i64)))) (.list 68 (.pair (.pair (.list 3 (.int .i64)) (.list 3 (.int .i64))) (.list 3 (.int .i64))))) } BT.leaf
def bt42:BT:=.node bt41 42 { kind:=.other,size:=1,bytes:=8,agg:=false,zero:=[.bot],cty:=[none],ty:=none } BT.leaf
def bt40:BT:=.node bt38 40 { kind:=.struct [(0,39),(1,39)],size:=2,bytes:=48,agg:=true,zero:=[.nil,.nil],cty:=[some (68,(.pair (.pair (.list 3 (.int .i64)) (.list 3 (.int .i64))) (.list 3 (.int .i64)))),some (68,(.pair (.pair (.list 3 (.int .i64)) (.list 3 (.int .i64))) (.list 3 (.int .i64))))],ty:=some (.pair (.list 68 (.pair (.pair (.list 3 (.int .i64)) (.list 3 (.int .i64))) (.list 3 (.int .i64)))) (.list 68 (.pair (.pair (.list 3 (.int .i64)) (.list 3 (.int .i64))) (.list 3 (.int .i64))))) } bt42
def bt36:BT:=.node bt33 36 { kind:=.other,size:=1,bytes:=8,agg:=false,zero:=[.bot],cty:=[none],ty:=none } bt40
def bt44:BT:=.node BT.leaf 44 { kind:=.other,size:=1,bytes:=8,agg:=false,zero:=[.bot],cty:=[none],ty:=none } BT.leaf
def bt46:BT:=.node BT.leaf 46 { kind:=.other,size:=1,bytes:=8,agg:=false,zero:=[.bot],cty:=[none],ty:=none } BT.leaf
def bt45:BT:=.node bt44 45 { kind:=.other,size:=1,bytes:=8,agg:=false,zero:=[.bot],cty:=[none],ty:=none } bt46
def bt48:BT:=.node BT.leaf 48 { kind:=.other,size:=1,bytes:=8,agg:=false,zero:=[.bot],cty:=[none],ty:=none } BT.leaf
def bt49:BT:=.node bt48 49 { kind:=.sc,size:=1,bytes:=8,agg:=false,zero:=[.int .i64 0],cty:=[none],ty:=some (.int .i64) } BT.leaf
def bt47:BT:=.node bt45 47 { kind:=.slice 4,size:=1,bytes:=24,agg:=false,zero:=[.nil],cty:=[some (4,.bool)],ty:=some (.list 4 .bool) } bt49
def bt52:BT:=.node BT.leaf 52 { kind:=.other,size:=1,bytes:=8,agg:=false,zero:=[.bot],cty:=[none],ty:=none } BT.leaf
def bt54:BT:=.node BT.leaf 54 { kind:=.sc,size:=1,bytes:=8,agg:=false,zero:=[.int .u64 0],cty:=[none],ty:=some (.int .u64) } BT.leaf
def bt53:BT:=.node bt52 53 { kind:=.other,size:=1,bytes:=8,agg:=false,zero:=[.bot],cty:=[none],ty:=none } bt54
def bt56:BT:=.node BT.leaf 56 { kind:=.struct [(0,22),(1,22)],size:=2,bytes:=48,agg:=true,zero:=[.nil,.nil],cty:=[some (3,(.int .i64)),some (3,(.int .i64))],ty:=some (.pair (.list 3 (.int .i64)) (.list 3 (.int .i64))) } BT.leaf
def bt57:BT:=.node bt56 57 { kind:=.struct [(0,22),(1,22)],size:=2,bytes:=48,agg:=true,zero:=[.nil,.nil],cty:=[some (3,(.int .i64)),some (3,(.int .i64))],ty:=some (.pair (.list 3 (.int .i64)) (.list 3 (.int .i64))) } BT.leaf
def bt55:BT:=.node bt53 55 { kind:=.other,size:=1,bytes:=8,agg:=false,zero:=[.bot],cty:=[none],ty:=none } bt57
def bt51:BT:=.node bt47 51 { kind:=.other,size:=1,bytes:=8,agg:=false,zero:=[.bot],cty:=[none],ty:=none } bt55
def bt43:BT:=.node bt36 43 { kind:=.slice 47,size:=1,bytes:=24,agg:=false,zero:=[.nil],cty:=[some (47,(.list 4 .bool))],ty:=some (.list 47 (.list 4 .bool)) } bt51
def bt29:BT:=.node bt14 29 { kind:=.slice 103,size:=1,bytes:=24,agg:=false,zero:=[.nil],cty:=[some (103,(.pair (.int .i64) (.pair .str (.pair .str (.pair .str (.pair .str (.pair (.list 150 (.pair (.int .i64) (.pair (.int .i64) (.pair .str .str)))) (.list 157 (.pair .str (.list 150 (.pair (.int .i64) (.pair (.int .i64) (.pair .str .str)))))))))))))],ty:=some (.list 103 (.pair (.int .i64) (.pair .str (.pair .str (.pair .str (.pair .str (.pair (.list 150 (.pair (.int .i64) (.pair (.int .i64) (.pair .str .str)))) (.list 157 (.pair .str (.list 150 (.pair (.int .i64) (.pair (.int .i64) (.pair .str .str))))))))))))) } bt43
def bt59:BT:=.node BT.leaf 59 { kind:=.other,size:=1,bytes:=8,agg:=false,zero:=[.bot],cty:=[none],ty:=none } BT.leaf
def bt61:BT:=.node BT.leaf 61 { kind:=.other,size:=1,bytes:=8,agg:=false,zero:=[.bot],cty:=[none],ty:=none } BT.leaf
def bt60:BT:=.node bt59 60 { kind:=.other,size:=1,bytes:=8,agg:=false,zero:=[.bot],cty:=[none],ty:=none } bt61
def bt63:BT:=.node BT.leaf 63 { kind:=.other,size:=1,bytes:=8,agg:=false,zero:=[.bot],cty:=[none],ty:=none } BT.leaf
def bt64:BT:=.node bt63 64 { kind:=.slice 150,size:=1,bytes:=24,agg:=false,zero:=[.nil],cty:=[some (150,(.pair (.int .i64) (.pair (.int .i64) (.pair .str .str))))],ty:=some (.list 150 (.pair (.int .i64) (.pair (.int .i64) (.pair .str .str)))) } BT.leaf
def bt62:BT:=.node bt60 62 { kind:=.other,size:=1,bytes:=8,agg:=false,zero:=[.bot],cty:=[none],ty:=none } bt64
def bt66:BT:=.node BT.leaf 66 { kind:=.struct [(0,3),(1,64)],size:=2,bytes:=32,agg:=true,zero:=[.int .i64 0,.nil],cty:=[none,some (150,(.pair (.int .i64) (.pair (.int .i64) (.pair .str .str))))],ty:=some (.pair (.int .i64) (.list 150 (.pair (.int .i64) (.pair (.int .i64) (.pair .str .str))))) } BT.leaf
def bt68:BT:=.node BT.leaf 68 { kind:=.struct [(0,57),(2,22)],size:=3,bytes:=72,agg:=true,zero:=[.nil,.nil,.nil],cty:=[some (3,(.int .i64)),some (3,(.int .i64)),some (3,(.int .i64))],ty:=some (.pair (.pair (.list 3 (.int .i64)) (.list 3 (.int .i64))) (.list 3 (.int .i64))) } BT.leaf
def bt67:BT:=.node bt66 67 { kind:=.struct [(0,57),(2,22)],size:=3,bytes:=72,agg:=true,zero:=[.nil,.nil,.nil],cty:=[some (3,(.int .i64)),some (3,(.int .i64)),some (3,(.int .i64))],ty:=some (.pair (.pair (.list 3 (.int .i64)) (.list 3 (.int .i64))) (.list 3 (.int .i64))) } bt68
def bt70:BT:=.node BT.leaf 70 { kind:=.other,size:=1,bytes:=8,agg:=false,zero:=[.bot],cty:=[none],ty:=none } BT.leaf
def bt71:BT:=.node bt70 71 { kind:=.other,size:=1,bytes:=8,agg:=false,zero:=[.bot],cty:=[none],ty:=none } BT.leaf
def bt69:BT:=.node bt67 69 { kind:=.other,size:=1,bytes:=8,agg:=false,zero:=[.bot],cty:=[none],ty:=none } bt71
def bt65:BT:=.node bt62 65 { kind:=.struct [(0,3),(1,64)],size:=2,bytes:=32,agg:=true,zero:=[.int .i64 0,.nil],cty:=[none,some (150,(.pair (.int .i64) (.pair (.int .i64) (.pair .str .str))))],ty:=some (.pair (.int .i64) (.list 150 (.pair (.int .i64) (.pair (.int .i64) (.pair .str .str))))) } bt69
def bt73:BT:=.node BT.leaf 73 { kind:=.other,size:=1,bytes:=8,agg:=false,zero:=[.bot],cty:=[none],ty:=none } BT.leaf
def bt75:BT:=.node BT.leaf 75 { kind:=.array 8 74,size:=16,bytes:=256,agg:=true,zero:=[.str [],.str [],.str [],.str [],.str [],.str [],.str [],.str [],.str [],.str [],.str [],.str [],.str [],.str [],.str [],.str []],cty:=[none,none,none,none,none,none,none,none,none,none,none,none,none,none,none,none],ty:=none } BT.leaf
def bt74:BT:=.node bt73 74 { kind:=.array 2 9,size:=2,bytes:=32,agg:=true,zero:=[.str [],.str []],cty:=[none,none],ty:=none } bt75
def bt78:BT:=.node BT.leaf 78 { kind:=.other,size:=1,bytes:=8,agg:=false,zero:=[.bot],cty:=[none],ty:=none } BT.leaf
def bt79:BT:=.node bt78 79 { kind:=.other,size:=1,bytes:=8,agg:=false,zero:=[.bot],cty:=[none],ty:=none } BT.leaf
def bt77:BT:=.node bt74 77 { kind:=.other,size:=1,bytes:=8,agg:=false,zero:=[.bot],cty:=[none],ty:=none } bt79
def bt82:BT:=.node BT.leaf 82 { kind:=.other,size:=1,bytes:=8,agg:=false,zero:=[.bot],cty:=[none],ty:=none } BT.leaf
def bt84:BT:=.node BT.leaf 84 { kind:=.other,size:=1,bytes:=8,agg:=false,zero:=[.bot],cty:=[none],ty:=none } BT.leaf
def bt83:BT:=.node bt82 83 { kind:=.other,size:=1,bytes:=8,agg:=false,zero:=[.bot],cty:=[none],ty:=none } bt84
def bt86:BT:=.node BT.leaf 86 { kind:=.struct [(0,22),(1,3)],size:=2,bytes:=32,agg:=true,zero:=[.nil,.int .i64 0],cty:=[some (3,(.int .i64)),none],ty:=some (.pair (.list 3 (.int .i64)) (.int .i64)) } BT.leaf
def bt87:BT:=.node bt86 87 { kind:=.other,size:=1,bytes:=8,agg:=false,zero:=[.bot],cty:=[none],ty:=none } BT.leaf
def bt85:BT:=.node bt83 85 { kind:=.struct [(0,22),(1,3)],size:=2,bytes:=32,agg:=true,zero:=[.nil,.int .i64 0],cty:=[some (3,(.int .i64)),none],ty:=some (.pair (.list 3 (.int .i64)) (.int .i64)) } bt87
def bt81:BT:=.node bt77 81 { kind:=.other,size:=1,bytes:=8,agg:=false,zero:=[.bot],cty:=[none],ty:=none } bt85
def bt72:BT:=.node bt65 72 { kind:=.other,size:=1,bytes:=8,agg:=false,zero:=[.bot],cty:=[none],ty:=none } bt81
def bt89:BT:=.node BT.leaf 89 { kind:=.other,size:=1,bytes:=8,agg:=false,zero:=[.bot],cty:=[none],ty:=none } BT.leaf
def bt91:BT:=.node BT.leaf 91 { kind:=.other,size:=1,bytes:=8,agg:=false,zero:=[.bot],cty:=[none],ty:=none } BT.leaf
def bt90:BT:=.node bt89 90 { kind:=.other,size:=1,bytes:=8,agg:=false,zero:=[.bot],cty:=[none],ty:=none } bt91
def bt93:BT:=.node BT.leaf 93 { kind:=.struct [(0,9),(1,3),(2,3),(3,3)],size:=4,bytes:=40,agg:=true,zero:=[.str [],.int .i64 0,.int .i64 0,.int .i64 0],cty:=[none,none,none,none],ty:=some (.pair .str (.pair (.int .i64) (.pair (.int .i64) (.int .i64)))) } BT.leaf
def bt94:BT:=.node bt93 94 { kind:=.struct [(0,9),(1,3),(2,3),(3,3)],size:=4,bytes:=40,agg:=true,zero:=[.str [],.int .i64 0,.int .i64 0,.int .i64 0],cty:=[none,none,none,none],ty:=some (.pair .str (.pair (.int .i64) (.pair (.int .i64) (.int .i64)))),eqf:=true } BT.leaf
def bt92:BT:=.node bt90 92 { kind:=.slice 9,size:=1,bytes:=24,agg:=false,zero:=[.nil],cty:=[some (9,.str)],ty:=some (.list 9 .str) } bt94
def bt96:BT:=.node BT.leaf 96 { kind:=.other,size:=1,bytes:=8,agg:=false,zero:=[.bot],cty:=[none],ty:=none } BT.leaf
def bt98:BT:=.node BT.leaf 98 { kind:=.struct [(0,9),(1,92)],size:=2,bytes:=40,agg:=true,zero:=[.str [],.nil],cty:=[none,some (9,.str)],ty:=some (.pair .str (.list 9 .str)) } BT.leaf
def bt97:BT:=.node bt96 97 { kind:=.struct [(0,9),(1,92)],size:=2,bytes:=40,agg:=true,zero:=[.str [],.nil],cty:=[none,some (9,.str)],ty:=some (.pair .str (.list 9 .str)) } bt98
def bt100:BT:=.node BT.leaf 100 { kind:=.other,size:=1,bytes:=8,agg:=false,zero:=[.bot],cty:=[none],ty:=none } BT.leaf
def bt101:BT:=.node bt100 101 { kind:=.slice 157,size:=1,bytes:=24,agg:=false,zero:=[.nil],cty:=[some (157,(.pair .str (.list 150 (.pair (.int .i64) (.pair (.int .i64) (.pair .str .str))))))],ty:=some (.list 157 (.pair .str (.list 150 (.pair (.int .i64) (.pair (.int .i64) (.pair .str .str)))))) } BT.leaf
def bt99:BT:=.node bt97 99 { kind:=.other,size:=1,bytes:=8,agg:=false,zero:=[.bot],cty:=[none],ty:=none } bt101
def bt95:BT:=.node bt92 95 { kind:=.other,size:=1,bytes:=8,agg:=false,zero:=[.bot],cty:=[none],ty:=none } bt99
def bt103:BT:=.node BT.leaf 103 { kind:=.struct [(0,3),(1,9),(2,9),(3,9),(4,9),(5,64),(6,101)],size:=7,bytes:=120,agg:=true,zero:=[.int .i64 0,.str [],.str [],.str [],.str [],.nil,.nil],cty:=[none,none,none,none,none,some (150,(.pair (.int .i64) (.pair (.int .i64) (.pair .str .str)))),some (157,(.pair .str (.list 150 (.pair (.int .i64) (.pair (.int .i64) (.pair .str .str))))))],ty:=some (.pair (.int .i64) (.pair .str (.pair .str (.pair .str (.pair .str (.pair (.list 150 (.pair (.int .i64) (.pair (.int .i64) (.pair .str .str)))) (.list 157 (.pair .str (.list 150 (.pair (.int .i64) (.pair (.int .i64) (.pair .str .str)))))))))))) } BT.leaf
def bt105:BT:=.node BT.leaf 105 { kind:=.other,size:=1,bytes:=8,agg:=false,zero:=[.bot],cty:=[none],ty:=none } BT.leaf
def bt104:BT:=.node bt103 104 { kind:=.other,size:=1,bytes:=8,agg:=false,zero:=[.bot],cty:=[none],ty:=none } bt105
def bt107:BT:=.node BT.leaf 107 { kind:=.other,size:=1,bytes:=8,agg:=false,zero:=[.bot],cty:=[none],ty:=none } BT.leaf
def bt108:BT:=.node bt107 108 { kind:=.map 3 4,size:=1,bytes:=8,agg:=false,zero:=[.bot],cty:=[none],ty:=none } BT.leaf
def bt106:BT:=.node bt104 106 { kind:=.other,size:=1,bytes:=8,agg:=false,zero:=[.bot],cty:=[none],ty:=none } bt108
def bt110:BT:=.node BT.leaf 110 { kind:=.other,size:=1,bytes:=8,agg:=false,zero:=[.bot],cty:=[none],ty:=none } BT.leaf
def bt111:BT:=.node bt110 111 { kind:=.other,size:=1,bytes:=8,agg:=false,zero:=[.bot],cty:=[none],ty:=none } BT.leaf
def bt113:BT:=.node BT.leaf 113 { kind:=.other,size:=1,bytes:=8,agg:=false,zero:=[.bot],cty:=[none],ty:=none } BT.leaf
def bt114:BT:=.node bt113 114 { kind:=.other,size:=1,bytes:=8,agg:=false,zero:=[.bot],cty:=[none],ty:=none } BT.leaf
def bt112:BT:=.node bt111 112 { kind:=.other,size:=1,bytes:=8,agg:=false,zero:=[.bot],cty:=[none],ty:=none } bt114
def bt109:BT:=.node bt106 109 { kind:=.other,size:=1,bytes:=8,agg:=false,zero:=[.bot],cty:=[none],ty:=none } bt112
def bt102:BT:=.node bt95 102 { kind:=.struct [(0,3),(1,9),(2,9),(3,9),(4,9),(5,64),(6,101)],size:=7,bytes:=120,agg:=true,zero:=[.int .i64 0,.str [],.str [],.str [],.str [],.nil,.nil],cty:=[none,none,none,none,none,some (150,(.pair (.int .i64) (.pair (.int .i64) (.pair .str .str)))),some (157,(.pair .str (.list 150 (.pair (.int .i64) (.pair (.int .i64) (.pair .str .str))))))],ty:=some (.pair (.int .i64) (.pair .str (.pair .str (.pair .str (.pair .str (.pair (.list 150 (.pair (.int .i64) (.pair (.int .i64) (.pair .str .str)))) (.list 157 (.pair .str (.list 150 (.pair (.int .i64) (.pair (.int .i64) (.pair .str .str)))))))))))) } bt109
def bt88:BT:=.node bt72 88 { kind:=.slice 33,size:=1,bytes:=24,agg:=false,zero:=[.nil],cty:=[some (33,(.list 66 (.pair (.int .i64) (.list 150 (.pair (.int .i64) (.pair (.int .i64) (.pair .str .str)))))))],ty:=some (.list 33 (.list 66 (.pair (.int .i64) (.list 150 (.pair (.int .i64) (.pair (.int .i64) (.pair .str .str))))))) } bt102
def bt58:BT:=.node bt29 58 { kind:=.other,size:=1,bytes:=8,agg:=false,zero:=[.bot],cty:=[none],ty:=none } bt88
def bt116:BT:=.node BT.leaf 116 { kind:=.struct [(0,31),(3,39),(4,3)],size:=5,bytes:=104,agg:=true,zero:=[.nil,.nil,.nil,.nil,.int .i64 0],cty:=[some (94,(.pair .str (.pair (.int .i64) (.pair (.int .i64) (.int .i64))))),some (98,(.pair .str (.list 9 .str))),some (103,(.pair (.int .i64) (.pair .str (.pair .str (.pair .str (.pair .str (.pair (.list 150 (.pair (.int .i64) (.pair (.int .i64) (.pair .str .str)))) (.list 157 (.pair .str (.list 150 (.pair (.int .i64) (.pair (.int .i64) (.pair .str .str))))))))))))),some (68,(.pair (.pair (.list 3 (.int .i64)) (.list 3 (.int .i64))) (.list 3 (.int .i64)))),none],ty:=some (.pair (.pair (.list 94 (.pair .str (.pair (.int .i64) (.pair (.int .i64) (.int .i64))))) (.pair (.list 98 (.pair .str (.list 9 .str))) (.list 103 (.pair (.int .i64) (.pair .str (.pair .str (.pair .str (.pair .str (.pair (.list 150 (.pair (.int .i64) (.pair (.int .i64) (.pair .str .str)))) (.list 157 (.pair .str (.list 150 (.pair (.int .i64) (.pair (.int .i64) (.pair .str .str))))))))))))))) (.pair (.list 68 (.pair (.pair (.list 3 (.int .i64)) (.list 3 (.int .i64))) (.list 3 (.int .i64)))) (.int .i64))) } BT.leaf
def bt118:BT:=.node BT.leaf 118 { kind:=.other,size:=1,bytes:=8,agg:=false,zero:=[.bot],cty:=[none],ty:=none } BT.leaf
def bt117:BT:=.node bt116 117 { kind:=.struct [(0,31),(3,39),(4,3)],size:=5,bytes:=104,agg:=true,zero:=[.nil,.nil,.nil,.nil,.int .i64 0],cty:=[some (94,(.pair .str (.pair (.int .i64) (.pair (.int .i64) (.int .i64))))),some (98,(.pair .str (.list 9 .str))),some (103,(.pair (.int .i64) (.pair .str (.pair .str (.pair .str (.pair .str (.pair (.list 150 (.pair (.int .i64) (.pair (.int .i64) (.pair .str .str)))) (.list 157 (.pair .str (.list 150 (.pair (.int .i64) (.pair (.int .i64) (.pair .str .str))))))))))))),some (68,(.pair (.pair (.list 3 (.int .i64)) (.list 3 (.int .i64))) (.list 3 (.int .i64)))),none],ty:=some (.pair (.pair (.list 94 (.pair .str (.pair (.int .i64) (.pair (.int .i64) (.int .i64))))) (.pair (.list 98 (.pair .str (.list 9 .str))) (.list 103 (.pair (.int .i64) (.pair .str (.pair .str (.pair .str (.pair .str (.pair (.list 150 (.pair (.int .i64) (.pair (.int .i64) (.pair .str .str)))) (.list 157 (.pair .str (.list 150 (.pair (.int .i64) (.pair (.int .i64) (.pair .str .str))))))))))))))) (.pair (.list 68 (.pair (.pair (.list 3 (.int .i64)) (.list 3 (.int .i64))) (.list 3 (.int .i64)))) (.int .i64))) } bt118
def bt120:BT:=.node BT.leaf 120 { kind:=.other,size:=1,bytes:=8,agg:=false,zero:=[.bot],cty:=[none],ty:=none } BT.leaf
def bt121:BT:=.node bt120 121 { kind:=.other,size:=1,bytes:=8,agg:=false,zero:=[.bot],cty:=[none],ty:=none } BT.leaf
def bt119:BT:=.node bt117 119 { kind:=.other,size:=1,bytes:=8,agg:=false,zero:=[.bot],cty:=[none],ty:=none } bt121
def bt124:BT:=.node BT.leaf 124 { kind:=.other,size:=1,bytes:=8,agg:=false,zero:=[.bot],cty:=[none],ty:=none } BT.leaf
def bt126:BT:=.node BT.leaf 126 { kind:=.struct [(0,122),(1,3),(2,33),(3,49),(4,3)],size:=5,bytes:=72,agg:=true,zero:=[.nil,.int .i64 0,.nil,.int .i64 0,.int .i64 0],cty:=[some (130,(.pair (.int .i64) (.pair .str (.pair (.int .i64) (.int .i64))))),none,some (66,(.pair (.int .i64) (.list 150 (.pair (.int .i64) (.pair (.int .i64) (.pair .str .str)))))),none,none],ty:=some (.pair (.list 130 (.pair (.int .i64) (.pair .str (.pair (.int .i64) (.int .i64))))) (.pair (.int .i64) (.pair (.list 66 (.pair (.int .i64) (.list 150 (.pair (.int .i64) (.pair (.int .i64) (.pair .str .str)))))) (.pair (.int .i64) (.int .i64))))) } BT.leaf
def bt125:BT:=.node bt124 125 { kind:=.other,size:=1,bytes:=8,agg:=false,zero:=[.bot],cty:=[none],ty:=none } bt126
def bt128:BT:=.node BT.leaf 128 { kind:=.other,size:=1,bytes:=8,agg:=false,zero:=[.bot],cty:=[none],ty:=none } BT.leaf
def bt129:BT:=.node bt128 129 { kind:=.struct [(0,3),(1,9),(2,3),(3,3)],size:=4,bytes:=40,agg:=true,zero:=[.int .i64 0,.str [],.int .i64 0,.int .i64 0],cty:=[none,none,none,none],ty:=some (.pair (.int .i64) (.pair .str (.pair (.int .i64) (.int .i64)))) } BT.leaf
def bt127:BT:=.node bt125 127 { kind:=.struct [(0,122),(1,3),(2,33),(3,49),(4,3)],size:=5,bytes:=72,agg:=true,zero:=[.nil,.int .i64 0,.nil,.int .i64 0,.int .i64 0],cty:=[some (130,(.pair (.int .i64) (.pair .str (.pair (.int .i64) (.int .i64))))),none,some (66,(.pair (.int .i64) (.list 150 (.pair (.int .i64) (.pair (.int .i64) (.pair .str .str)))))),none,none],ty:=some (.pair (.list 130 (.pair (.int .i64) (.pair .str (.pair (.int .i64) (.int .i64))))) (.pair (.int .i64) (.pair (.list 66 (.pair (.int .i64) (.list 150 (.pair (.int .i64) (.pair (.int .i64) (.pair .str .str)))))) (.pair (.int .i64) (.int .i64))))) } bt129
def bt122:BT:=.node bt119 122 { kind:=.slice 130,size:=1,bytes:=24,agg:=false,zero:=[.nil],cty:=[some (130,(.pair (.int .i64) (.pair .str (.pair (.int .i64) (.int .i64)))))],ty:=some (.list 130 (.pair (.int .i64) (.pair .str (.pair (.int .i64) (.int .i64))))) } bt127
def bt131:BT:=.node BT.leaf 131 { kind:=.other,size:=1,bytes:=8,agg:=false,zero:=[.bot],cty:=[none],ty:=none } BT.leaf
def bt133:BT:=.node BT.leaf 133 { kind:=.other,size:=1,bytes:=8,agg:=false,zero:=[.bot],cty:=[none],ty:=none } BT.leaf
def bt132:BT:=.node bt131 132 { kind:=.other,size:=1,bytes:=8,agg:=false,zero:=[.bot],cty:=[none],ty:=none } bt133
def bt136:BT:=.node BT.leaf 136 { kind:=.other,size:=1,bytes:=8,agg:=false,zero:=[.bot],cty:=[none],ty:=none } BT.leaf
def bt138:BT:=.node bt136 138 { kind:=.other,size:=1,bytes:=8,agg:=false,zero:=[.bot],cty:=[none],ty:=none } BT.leaf
def bt134:BT:=.node bt132 134 { kind:=.other,size:=1,bytes:=8,agg:=false,zero:=[.bot],cty:=[none],ty:=none } bt138
def bt140:BT:=.node BT.leaf 140 { kind:=.array 3 9,size:=3,bytes:=48,agg:=true,zero:=[.str [],.str [],.str []],cty:=[none,none,none],ty:=none } BT.leaf
def bt142:BT:=.node BT.leaf 142 { kind:=.other,size:=1,bytes:=8,agg:=false,zero:=[.bot],cty:=[none],ty:=none } BT.leaf
def bt141:BT:=.node bt140 141 { kind:=.other,size:=1,bytes:=8,agg:=false,zero:=[.bot],cty:=[none],ty:=none } bt142
def bt144:BT:=.node BT.leaf 144 { kind:=.other,size:=1,bytes:=8,agg:=false,zero:=[.bot],cty:=[none],ty:=none } BT.leaf
def bt145:BT:=.node bt144 145 { kind:=.other,size:=1,bytes:=8,agg:=false,zero:=[.bot],cty:=[none],ty:=none } BT.leaf
def bt143:BT:=.node bt141 143 { kind:=.array 6 9,size:=6,bytes:=96,agg:=true,zero:=[.str [],.str [],.str [],.str [],.str [],.str []],cty:=[none,none,none,none,none,none],ty:=none } bt145
def bt139:BT:=.node bt134 139 { kind:=.other,size:=1,bytes:=8,agg:=false,zero:=[.bot],cty:=[none],ty:=none } bt143
def bt130:BT:=.node bt122 130 { kind:=.struct [(0,3),(1,9),(2,3),(3,3)],size:=4,bytes:=40,agg:=true,zero:=[.int .i64 0,.str [],.int .i64 0,.int .i64 0],cty:=[none,none,none,none],ty:=some (.pair (.int .i64) (.pair .str (.pair (.int .i64) (.int .i64)))),eqf:=true } bt139
def bt147:BT:=.node BT.leaf 147 { kind:=.other,size:=1,bytes:=8,agg:=false,zero:=[.bot],cty:=[none],ty:=none } BT.leaf
def bt149:BT:=.node BT.leaf 149 { kind:=.struct [(0,3),(1,3),(2,9),(3,9)],size:=4,bytes:=48,agg:=true,zero:=[.int .i64 0,.int .i64 0,.str [],.str []],cty:=[none,none,none,none],ty:=some (.pair (.int .i64) (.pair (.int .i64) (.pair .str .str))) } BT.leaf
def bt148:BT:=.node bt147 148 { kind:=.other,size:=1,bytes:=8,agg:=false,zero:=[.bot],cty:=[none],ty:=none } bt149
def bt151:BT:=.node BT.leaf 151 { kind:=.other,size:=1,bytes:=8,agg:=false,zero:=[.bot],cty:=[none],ty:=none } BT.leaf
def bt152:BT:=.node bt151 152 { kind:=.other,size:=1,bytes:=8,agg:=false,zero:=[.bot],cty:=[none],ty:=none } BT.leaf
def bt150:BT:=.node bt148 150 { kind:=.struct [(0,3),(1,3),(2,9),(3,9)],size:=4,bytes:=48,agg:=true,zero:=[.int .i64 0,.int .i64 0,.str [],.str []],cty:=[none,none,none,none],ty:=some (.pair (.int .i64) (.pair (.int .i64) (.pair .str .str))),eqf:=true } bt152
def bt155:BT:=.node BT.leaf 155 { kind:=.other,size:=1,bytes:=8,agg:=false,zero:=[.bot],cty:=[none],ty:=none } BT.leaf
def bt157:BT:=.node BT.leaf 157 { kind:=.struct [(0,9),(1,64)],size:=2,bytes:=40,agg:=true,zero:=[.str [],.nil],cty:=[none,some (150,(.pair (.int .i64) (.pair (.int .i64) (.pair .str .str))))],ty:=some (.pair .str (.list 150 (.pair (.int .i64) (.pair (.int .i64) (.pair .str .str))))) } BT.leaf
def bt156:BT:=.node bt155 156 { kind:=.struct [(0,9),(1,64)],size:=2,bytes:=40,agg:=true,zero:=[.str [],.nil],cty:=[none,some (150,(.pair (.int .i64) (.pair (.int .i64) (.pair .str .str))))],ty:=some (.pair .str (.list 150 (.pair (.int .i64) (.pair (.int .i64) (.pair .str .str))))) } bt157
def bt159:BT:=.node BT.leaf 159 { kind:=.other,size:=1,bytes:=8,agg:=false,zero:=[.bot],cty:=[none],ty:=none } BT.leaf
def bt160:BT:=.node bt159 160 { kind:=.other,size:=1,bytes:=8,agg:=false,zero:=[.bot],cty:=[none],ty:=none } BT.leaf
def bt158:BT:=.node bt156 158 { kind:=.other,size:=1,bytes:=8,agg:=false,zero:=[.bot],cty:=[none],ty:=none } bt160
def bt154:BT:=.node bt150 154 { kind:=.other,size:=1,bytes:=8,agg:=false,zero:=[.bot],cty:=[none],ty:=none } bt158
def bt162:BT:=.node BT.leaf 162 { kind:=.other,size:=1,bytes:=8,agg:=false,zero:=[.bot],cty:=[none],ty:=none } BT.leaf
def bt166:BT:=.node BT.leaf 166 { kind:=.other,size:=1,bytes:=8,agg:=false,zero:=[.bot],cty:=[none],ty:=none } BT.leaf
def bt164:BT:=.node bt162 164 { kind:=.other,size:=1,bytes:=8,agg:=false,zero:=[.bot],cty:=[none],ty:=none } bt166
def bt168:BT:=.node BT.leaf 168 { kind:=.other,size:=1,bytes:=8,agg:=false,zero:=[.bot],cty:=[none],ty:=none } BT.leaf
def bt169:BT:=.node bt168 169 { kind:=.other,size:=1,bytes:=8,agg:=false,zero:=[.bot],cty:=[none],ty:=none } BT.leaf
def bt167:BT:=.node bt164 167 { kind:=.slice 39,size:=1,bytes:=24,agg:=false,zero:=[.nil],cty:=[some (39,(.list 68 (.pair (.pair (.list 3 (.int .i64)) (.list 3 (.int .i64))) (.list 3 (.int .i64)))))],ty:=some (.list 39 (.list 68 (.pair (.pair (.list 3 (.int .i64)) (.list 3 (.int .i64))) (.list 3 (.int .i64))))) } bt169
def bt171:BT:=.node BT.leaf 171 { kind:=.other,size:=1,bytes:=8,agg:=false,zero:=[.bot],cty:=[none],ty:=none } BT.leaf
def bt173:BT:=.node BT.leaf 173 { kind:=.other,size:=1,bytes:=8,agg:=false,zero:=[.bot],cty:=[none],ty:=none } BT.leaf
def bt172:BT:=.node bt171 172 { kind:=.other,size:=1,bytes:=8,agg:=false,zero:=[.bot],cty:=[none],ty:=none } bt173
def bt175:BT:=.node BT.leaf 175 { kind:=.struct [(0,9),(1,3)],size:=2,bytes:=24,agg:=true,zero:=[.str [],.int .i64 0],cty:=[none,none],ty:=some (.pair .str (.int .i64)) } BT.leaf
def bt176:BT:=.node bt175 176 { kind:=.struct [(0,9),(1,3)],size:=2,bytes:=24,agg:=true,zero:=[.str [],.int .i64 0],cty:=[none,none],ty:=some (.pair .str (.int .i64)),eqf:=true } BT.leaf
def bt174:BT:=.node bt172 174 { kind:=.slice 176,size:=1,bytes:=24,agg:=false,zero:=[.nil],cty:=[some (176,(.pair .str (.int .i64)))],ty:=some (.list 176 (.pair .str (.int .i64))) } bt176
def bt170:BT:=.node bt167 170 { kind:=.other,size:=1,bytes:=8,agg:=false,zero:=[.bot],cty:=[none],ty:=none } bt174
def bt161:BT:=.node bt154 161 { kind:=.other,size:=1,bytes:=8,agg:=false,zero:=[.bot],cty:=[none],ty:=none } bt170
def bt146:BT:=.node bt130 146 { kind:=.other,size:=1,bytes:=8,agg:=false,zero:=[.bot],cty:=[none],ty:=none } bt161
def bt178:BT:=.node BT.leaf 178 { kind:=.other,size:=1,bytes:=8,agg:=false,zero:=[.bot],cty:=[none],ty:=none } BT.leaf
def bt182:BT:=.node BT.leaf 182 { kind:=.other,size:=1,bytes:=8,agg:=false,zero:=[.bot],cty:=[none],ty:=none } BT.leaf
def bt180:BT:=.node bt178 180 { kind:=.other,size:=1,bytes:=8,agg:=false,zero:=[.bot],cty:=[none],ty:=none } bt182
def bt185:BT:=.node BT.leaf 185 { kind:=.other,size:=1,bytes:=8,agg:=false,zero:=[.bot],cty:=[none],ty:=none } BT.leaf
def bt186:BT:=.node bt185 186 { kind:=.array 4 9,size:=4,bytes:=64,agg:=true,zero:=[.str [],.str [],.str [],.str []],cty:=[none,none,none,none],ty:=none } BT.leaf
def bt184:BT:=.node bt180 184 { kind:=.other,size:=1,bytes:=8,agg:=false,zero:=[.bot],cty:=[none],ty:=none } bt186
def bt188:BT:=.node BT.leaf 188 { kind:=.other,size:=1,bytes:=8,agg:=false,zero:=[.bot],cty:=[none],ty:=none } BT.leaf
def bt190:BT:=.node BT.leaf 190 { kind:=.other,size:=1,bytes:=8,agg:=false,zero:=[.bot],cty:=[none],ty:=none } BT.leaf
def bt189:BT:=.node bt188 189 { kind:=.array 4 3,size:=4,bytes:=32,agg:=true,zero:=[.int .i64 0,.int .i64 0,.int .i64 0,.int .i64 0],cty:=[none,none,none,none],ty:=none } bt190
def bt192:BT:=.node BT.leaf 192 { kind:=.other,size:=1,bytes:=8,agg:=false,zero:=[.bot],cty:=[none],ty:=none } BT.leaf
def bt193:BT:=.node bt192 193 { kind:=.other,size:=1,bytes:=8,agg:=false,zero:=[.bot],cty:=[none],ty:=none } BT.leaf
def bt191:BT:=.node bt189 191 { kind:=.other,size:=1,bytes:=8,agg:=false,zero:=[.bot],cty:=[none],ty:=none } bt193
def bt187:BT:=.node bt184 187 { kind:=.array 8 9,size:=8,bytes:=128,agg:=true,zero:=[.str [],.str [],.str [],.str [],.str [],.str [],.str [],.str []],cty:=[none,none,none,none,none,none,none,none],ty:=none } bt191
def bt195:BT:=.node BT.leaf 195 { kind:=.other,size:=1,bytes:=8,agg:=false,zero:=[.bot],cty:=[none],ty:=none } BT.leaf
def bt197:BT:=.node BT.leaf 197 { kind:=.other,size:=1,bytes:=8,agg:=false,zero:=[.bot],cty:=[none],ty:=none } BT.leaf
def bt196:BT:=.node bt195 196 { kind:=.other,size:=1,bytes:=8,agg:=false,zero:=[.bot],cty:=[none],ty:=none } bt197
def bt199:BT:=.node BT.leaf 199 { kind:=.other,size:=1,bytes:=8,agg:=false,zero:=[.bot],cty:=[none],ty:=none } BT.leaf
def bt200:BT:=.node bt199 200 { kind:=.other,size:=1,bytes:=8,agg:=false,zero:=[.bot],cty:=[none],ty:=none } BT.leaf
def bt198:BT:=.node bt196 198 { kind:=.other,size:=1,bytes:=8,agg:=false,zero:=[.bot],cty:=[none],ty:=none } bt200
def bt202:BT:=.node BT.leaf 202 { kind:=.other,size:=1,bytes:=8,agg:=false,zero:=[.bot],cty:=[none],ty:=none } BT.leaf
def bt204:BT:=.node BT.leaf 204 { kind:=.other,size:=1,bytes:=8,agg:=false,zero:=[.bot],cty:=[none],ty:=none } BT.leaf
def bt203:BT:=.node bt202 203 { kind:=.array 9 9,size:=9,bytes:=144,agg:=true,zero:=[.str [],.str [],.str [],.str [],.str [],.str [],.str [],.str [],.str []],cty:=[none,none,none,none,none,none,none,none,none],ty:=none } bt204
def bt207:BT:=.node BT.leaf 207 { kind:=.slice 210,size:=1,bytes:=24,agg:=false,zero:=[.nil],cty:=[some (210,(.pair .str (.int .i64)))],ty:=some (.list 210 (.pair .str (.int .i64))) } BT.leaf
def bt208:BT:=.node bt207 208 { kind:=.array 17 9,size:=17,bytes:=272,agg:=true,zero:=[.str [],.str [],.str [],.str [],.str [],.str [],.str [],.str [],.str [],.str [],.str [],.str [],.str [],.str [],.str [],.str [],.str []],cty:=[none,none,none,none,none,none,none,none,none,none,none,none,none,none,none,none,none],ty:=none } BT.leaf
def bt206:BT:=.node bt203 206 { kind:=.other,size:=1,bytes:=8,agg:=false,zero:=[.bot],cty:=[none],ty:=none } bt208
def bt201:BT:=.node bt198 201 { kind:=.other,size:=1,bytes:=8,agg:=false,zero:=[.bot],cty:=[none],ty:=none } bt206
def bt194:BT:=.node bt187 194 { kind:=.other,size:=1,bytes:=8,agg:=false,zero:=[.bot],cty:=[none],ty:=none } bt201
def bt210:BT:=.node BT.leaf 210 { kind:=.struct [(0,9),(1,3)],size:=2,bytes:=24,agg:=true,zero:=[.str [],.int .i64 0],cty:=[none,none],ty:=some (.pair .str (.int .i64)),eqf:=true } BT.leaf
def bt212:BT:=.node BT.leaf 212 { kind:=.other,size:=1,bytes:=8,agg:=false,zero:=[.bot],cty:=[none],ty:=none } BT.leaf
def bt211:BT:=.node bt210 211 { kind:=.other,size:=1,bytes:=8,agg:=false,zero:=[.bot],cty:=[none],ty:=none } bt212
def bt214:BT:=.node BT.leaf 214 { kind:=.other,size:=1,bytes:=8,agg:=false,zero:=[.bot],cty:=[none],ty:=none } BT.leaf
def bt215:BT:=.node bt214 215 { kind:=.sc,size:=1,bytes:=8,agg:=false,zero:=[.int .u64 0],cty:=[none],ty:=some (.int .u64) } BT.leaf
def bt213:BT:=.node bt211 213 { kind:=.other,size:=1,bytes:=8,agg:=false,zero:=[.bot],cty:=[none],ty:=none } bt215
def bt217:BT:=.node BT.leaf 217 { kind:=.other,size:=1,bytes:=8,agg:=false,zero:=[.bot],cty:=[none],ty:=none } BT.leaf
def bt219:BT:=.node BT.leaf 219 { kind:=.other,size:=1,bytes:=8,agg:=false,zero:=[.bot],cty:=[none],ty:=none } BT.leaf
def bt218:BT:=.node bt217 218 { kind:=.map 9 4,size:=1,bytes:=8,agg:=false,zero:=[.bot],cty:=[none],ty:=none } bt219
def bt221:BT:=.node BT.leaf 221 { kind:=.struct [(0,122),(1,3),(2,64),(3,3)],size:=4,bytes:=64,agg:=true,zero:=[.nil,.int .i64 0,.nil,.int .i64 0],cty:=[some (130,(.pair (.int .i64) (.pair .str (.pair (.int .i64) (.int .i64))))),none,some (150,(.pair (.int .i64) (.pair (.int .i64) (.pair .str .str)))),none],ty:=some (.pair (.list 130 (.pair (.int .i64) (.pair .str (.pair (.int .i64) (.int .i64))))) (.pair (.int .i64) (.pair (.list 150 (.pair (.int .i64) (.pair (.int .i64) (.pair .str .str)))) (.int .i64)))) } BT.leaf
def bt222:BT:=.node bt221 222 { kind:=.other,size:=1,bytes:=8,agg:=false,zero:=[.bot],cty:=[none],ty:=none } BT.leaf
def bt220:BT:=.node bt218 220 { kind:=.struct [(0,122),(1,3),(2,64),(3,3)],size:=4,bytes:=64,agg:=true,zero:=[.nil,.int .i64 0,.nil,.int .i64 0],cty:=[some (130,(.pair (.int .i64) (.pair .str (.pair (.int .i64) (.int .i64))))),none,some (150,(.pair (.int .i64) (.pair (.int .i64) (.pair .str .str)))),none],ty:=some (.pair (.list 130 (.pair (.int .i64) (.pair .str (.pair (.int .i64) (.int .i64))))) (.pair (.int .i64) (.pair (.list 150 (.pair (.int .i64) (.pair (.int .i64) (.pair .str .str)))) (.int .i64)))) } bt222
def bt216:BT:=.node bt213 216 { kind:=.array 11 9,size:=11,bytes:=176,agg:=true,zero:=[.str [],.str [],.str [],.str [],.str [],.str [],.str [],.str [],.str [],.str [],.str []],cty:=[none,none,none,none,none,none,none,none,none,none,none],ty:=none } bt220
def bt224:BT:=.node BT.leaf 224 { kind:=.struct [(0,17),(1,17),(2,17),(3,9)],size:=4,bytes:=40,agg:=true,zero:=[.bot,.bot,.bot,.str []],cty:=[none,none,none,none],ty:=none } BT.leaf
def bt229:BT:=.node BT.leaf 229 { kind:=.other,size:=1,bytes:=8,agg:=false,zero:=[.bot],cty:=[none],ty:=none } BT.leaf
def bt225:BT:=.node bt224 225 { kind:=.struct [(0,17),(1,17),(2,17),(3,9)],size:=4,bytes:=40,agg:=true,zero:=[.bot,.bot,.bot,.str []],cty:=[none,none,none,none],ty:=none } bt229
def bt231:BT:=.node BT.leaf 231 { kind:=.sc,size:=1,bytes:=1,agg:=false,zero:=[.int .u8 0],cty:=[none],ty:=some (.int .u8) } BT.leaf
def bt232:BT:=.node bt231 232 { kind:=.sc,size:=1,bytes:=1,agg:=false,zero:=[.int .u8 0],cty:=[none],ty:=some (.int .u8) } BT.leaf
def bt230:BT:=.node bt225 230 { kind:=.sc,size:=1,bytes:=4,agg:=false,zero:=[.int .u32 0],cty:=[none],ty:=some (.int .u32) } bt232
def bt234:BT:=.node BT.leaf 234 { kind:=.other,size:=1,bytes:=8,agg:=false,zero:=[.bot],cty:=[none],ty:=none } BT.leaf
def bt235:BT:=.node bt234 235 { kind:=.sc,size:=1,bytes:=4,agg:=false,zero:=[.int .i32 0],cty:=[none],ty:=some (.int .i32) } BT.leaf
def bt237:BT:=.node BT.leaf 237 { kind:=.struct [(0,12),(1,12),(2,230),(3,231),(4,5),(5,5),(6,232),(7,233),(8,234),(9,235),(10,236)],size:=11,bytes:=48,agg:=true,zero:=[.int .u64 0,.int .u64 0,.int .u32 0,.int .u8 0,.int .u8 0,.int .u8 0,.int .u8 0,.bot,.bot,.int .i32 0,.int .i32 0],cty:=[none,none,none,none,none,none,none,none,none,none,none],ty:=none } BT.leaf
def bt238:BT:=.node bt237 238 { kind:=.struct [(0,12),(1,12),(2,230),(3,231),(4,5),(5,5),(6,232),(7,233),(8,234),(9,235),(10,236)],size:=11,bytes:=48,agg:=true,zero:=[.int .u64 0,.int .u64 0,.int .u32 0,.int .u8 0,.int .u8 0,.int .u8 0,.int .u8 0,.bot,.bot,.int .i32 0,.int .i32 0],cty:=[none,none,none,none,none,none,none,none,none,none,none],ty:=none } BT.leaf
def bt236:BT:=.node bt235 236 { kind:=.sc,size:=1,bytes:=4,agg:=false,zero:=[.int .i32 0],cty:=[none],ty:=some (.int .i32) } bt238
def bt233:BT:=.node bt230 233 { kind:=.other,size:=1,bytes:=8,agg:=false,zero:=[.bot],cty:=[none],ty:=none } bt236
def bt223:BT:=.node bt216 223 { kind:=.other,size:=1,bytes:=8,agg:=false,zero:=[.bot],cty:=[none],ty:=none } bt233
def bt209:BT:=.node bt194 209 { kind:=.struct [(0,9),(1,3)],size:=2,bytes:=24,agg:=true,zero:=[.str [],.int .i64 0],cty:=[none,none],ty:=some (.pair .str (.int .i64)) } bt223
def bt177:BT:=.node bt146 177 { kind:=.other,size:=1,bytes:=8,agg:=false,zero:=[.bot],cty:=[none],ty:=none } bt209
def bt115:BT:=.node bt58 115 { kind:=.other,size:=1,bytes:=8,agg:=false,zero:=[.bot],cty:=[none],ty:=none } bt177
def tab:BT:=bt115
def tau:Nat→Option TI:=tab.get
end Go.Proofs.YtccnmhdgghjgoaaGreatDoor.Av
