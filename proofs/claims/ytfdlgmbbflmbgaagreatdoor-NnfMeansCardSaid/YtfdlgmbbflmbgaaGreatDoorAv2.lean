/- The table of the seat's types,for the abstract evaluator. Conditions: none. -/
import Derived.Test.YtfdlgmbbflmbgaaGreatDoorAv1
namespace Go.Proofs.YtfdlgmbbflmbgaaGreatDoor.Av
open Go
def owL:List (Nat×Nat):=[]
def glL:List (Nat×List CV):=[(0,[.str [120],.str [121],.str [122]]),(1,[.str [112],.str [113],.str [114]]),(2,[.str [97],.str [98],.str [99],.str [100]])]
abbrev ty2:Ty:=(.int .i64)
abbrev ty3:Ty:=(.int .i64)
abbrev ty4:Ty:=.bool
abbrev ty9:Ty:=.str
abbrev ty22:Ty:=(.list 3 (.int .i64))
abbrev ty23:Ty:=(.list 22 (.list 3 (.int .i64)))
abbrev ty45:Ty:=(.list 4 .bool)
abbrev ty61:Ty:=(.pair .str (.pair (.int .i64) (.pair (.int .i64) (.int .i64))))
abbrev ty65:Ty:=(.pair .str (.list 9 .str))
abbrev ty71:Ty:=(.pair (.int .i64) (.pair .str (.pair .str (.pair .str (.pair .str (.pair (.list 118 (.pair (.int .i64) (.pair (.int .i64) (.pair .str .str)))) (.list 116 (.pair .str (.list 118 (.pair (.int .i64) (.pair (.int .i64) (.pair .str .str))))))))))))
abbrev ty73:Ty:=(.pair (.int .i64) (.list 118 (.pair (.int .i64) (.pair (.int .i64) (.pair .str .str)))))
abbrev ty79:Ty:=(.pair (.pair (.list 3 (.int .i64)) (.list 3 (.int .i64))) (.list 3 (.int .i64)))
abbrev ty106:Ty:=(.pair (.int .i64) (.pair .str (.pair (.int .i64) (.int .i64))))
abbrev ty116:Ty:=(.pair .str (.list 118 (.pair (.int .i64) (.pair (.int .i64) (.pair .str .str)))))
abbrev ty118:Ty:=(.pair (.int .i64) (.pair (.int .i64) (.pair .str .str)))
abbrev ty129:Ty:=(.pair .str (.int .i64))
abbrev ty149:Ty:=(.pair .str (.int .i64))
def bt1:BT:=.node BT.leaf 1 { kind:=.other,size:=1,bytes:=8,agg:=false,zero:=[.bot],cty:=[none],ty:=none } BT.leaf
def bt2:BT:=.node bt1 2 { kind:=.sc,size:=1,bytes:=8,agg:=false,zero:=[.int .i64 0],cty:=[none],ty:=some (.int .i64) } BT.leaf
def bt4:BT:=.node BT.leaf 4 { kind:=.sc,size:=1,bytes:=1,agg:=false,zero:=[.bool false],cty:=[none],ty:=some .bool } BT.leaf
def bt5:BT:=.node bt4 5 { kind:=.sc,size:=1,bytes:=1,agg:=false,zero:=[.int .u8 0],cty:=[none],ty:=some (.int .u8) } BT.leaf
def bt3:BT:=.node bt2 3 { kind:=.sc,size:=1,bytes:=8,agg:=false,zero:=[.int .i64 0],cty:=[none],ty:=some (.int .i64) } bt5
def bt7:BT:=.node BT.leaf 7 { kind:=.struct [(0,2),(1,3),(2,4),(3,6)],size:=4,bytes:=24,agg:=true,zero:=[.int .i64 0,.int .i64 0,.bool false,.int .u8 0],cty:=[none,none,none,none],ty:=some (.pair (.int .i64) (.pair (.int .i64) (.pair .bool (.int .u8)))) } BT.leaf
def bt8:BT:=.node bt7 8 { kind:=.struct [(0,2),(1,3),(2,4),(3,6)],size:=4,bytes:=24,agg:=true,zero:=[.int .i64 0,.int .i64 0,.bool false,.int .u8 0],cty:=[none,none,none,none],ty:=some (.pair (.int .i64) (.pair (.int .i64) (.pair .bool (.int .u8)))) } BT.leaf
def bt10:BT:=.node BT.leaf 10 { kind:=.sc,size:=1,bytes:=16,agg:=false,zero:=[.str []],cty:=[none],ty:=some .str } BT.leaf
def bt9:BT:=.node bt8 9 { kind:=.sc,size:=1,bytes:=16,agg:=false,zero:=[.str []],cty:=[none],ty:=some .str } bt10
def bt6:BT:=.node bt3 6 { kind:=.sc,size:=1,bytes:=1,agg:=false,zero:=[.int .u8 0],cty:=[none],ty:=some (.int .u8) } bt9
def bt12:BT:=.node BT.leaf 12 { kind:=.sc,size:=1,bytes:=8,agg:=false,zero:=[.int .u64 0],cty:=[none],ty:=some (.int .u64) } BT.leaf
def bt13:BT:=.node bt12 13 { kind:=.struct [(0,9),(1,12)],size:=2,bytes:=24,agg:=true,zero:=[.str [],.int .u64 0],cty:=[none,none],ty:=some (.pair .str (.int .u64)) } BT.leaf
def bt15:BT:=.node BT.leaf 15 { kind:=.other,size:=1,bytes:=8,agg:=false,zero:=[.bot],cty:=[none],ty:=none } BT.leaf
def bt14:BT:=.node bt13 14 { kind:=.struct [(0,9),(1,12)],size:=2,bytes:=24,agg:=true,zero:=[.str [],.int .u64 0],cty:=[none,none],ty:=some (.pair .str (.int .u64)) } bt15
def bt17:BT:=.node BT.leaf 17 { kind:=.other,size:=1,bytes:=8,agg:=false,zero:=[.bot],cty:=[none],ty:=none } BT.leaf
def bt18:BT:=.node bt17 18 { kind:=.struct [(0,17)],size:=1,bytes:=8,agg:=true,zero:=[.bot],cty:=[none],ty:=none } BT.leaf
def bt21:BT:=.node BT.leaf 21 { kind:=.sc,size:=1,bytes:=4,agg:=false,zero:=[.int .i32 0],cty:=[none],ty:=some (.int .i32) } BT.leaf
def bt19:BT:=.node bt18 19 { kind:=.struct [(0,17)],size:=1,bytes:=8,agg:=true,zero:=[.bot],cty:=[none],ty:=none } bt21
def bt16:BT:=.node bt14 16 { kind:=.other,size:=1,bytes:=8,agg:=false,zero:=[.bot],cty:=[none],ty:=none } bt19
def bt11:BT:=.node bt6 11 { kind:=.sc,size:=1,bytes:=16,agg:=false,zero:=[.str []],cty:=[none],ty:=some .str } bt16
def bt23:BT:=.node BT.leaf 23 { kind:=.slice 22,size:=1,bytes:=24,agg:=false,zero:=[.nil],cty:=[some (22,(.list 3 (.int .i64)))],ty:=some (.list 22 (.list 3 (.int .i64))) } BT.leaf
def bt24:BT:=.node bt23 24 { kind:=.struct [(0,3),(1,3),(2,23)],size:=3,bytes:=40,agg:=true,zero:=[.int .i64 0,.int .i64 0,.nil],cty:=[none,none,some (22,(.list 3 (.int .i64)))],ty:=some (.pair (.int .i64) (.pair (.int .i64) (.list 22 (.list 3 (.int .i64))))) } BT.leaf
def bt26:BT:=.node BT.leaf 26 { kind:=.other,size:=1,bytes:=8,agg:=false,zero:=[.bot],cty:=[none],ty:=none } BT.leaf
def bt27:BT:=.node bt26 27 { kind:=.slice 61,size:=1,bytes:=24,agg:=false,zero:=[.nil],cty:=[some (61,(.pair .str (.pair (.int .i64) (.pair (.int .i64) (.int .i64)))))],ty:=some (.list 61 (.pair .str (.pair (.int .i64) (.pair (.int .i64) (.int .i64))))) } BT.leaf
def bt25:BT:=.node bt24 25 { kind:=.struct [(0,3),(1,3),(2,23)],size:=3,bytes:=40,agg:=true,zero:=[.int .i64 0,.int .i64 0,.nil],cty:=[none,none,some (22,(.list 3 (.int .i64)))],ty:=some (.pair (.int .i64) (.pair (.int .i64) (.list 22 (.list 3 (.int .i64))))) } bt27
def bt29:BT:=.node BT.leaf 29 { kind:=.slice 71,size:=1,bytes:=24,agg:=false,zero:=[.nil],cty:=[some (71,(.pair (.int .i64) (.pair .str (.pair .str (.pair .str (.pair .str (.pair (.list 118 (.pair (.int .i64) (.pair (.int .i64) (.pair .str .str)))) (.list 116 (.pair .str (.list 118 (.pair (.int .i64) (.pair (.int .i64) (.pair .str .str)))))))))))))],ty:=some (.list 71 (.pair (.int .i64) (.pair .str (.pair .str (.pair .str (.pair .str (.pair (.list 118 (.pair (.int .i64) (.pair (.int .i64) (.pair .str .str)))) (.list 116 (.pair .str (.list 118 (.pair (.int .i64) (.pair (.int .i64) (.pair .str .str))))))))))))) } BT.leaf
def bt30:BT:=.node bt29 30 { kind:=.struct [(0,27),(1,28),(2,29)],size:=3,bytes:=72,agg:=true,zero:=[.nil,.nil,.nil],cty:=[some (61,(.pair .str (.pair (.int .i64) (.pair (.int .i64) (.int .i64))))),some (65,(.pair .str (.list 9 .str))),some (71,(.pair (.int .i64) (.pair .str (.pair .str (.pair .str (.pair .str (.pair (.list 118 (.pair (.int .i64) (.pair (.int .i64) (.pair .str .str)))) (.list 116 (.pair .str (.list 118 (.pair (.int .i64) (.pair (.int .i64) (.pair .str .str)))))))))))))],ty:=some (.pair (.list 61 (.pair .str (.pair (.int .i64) (.pair (.int .i64) (.int .i64))))) (.pair (.list 65 (.pair .str (.list 9 .str))) (.list 71 (.pair (.int .i64) (.pair .str (.pair .str (.pair .str (.pair .str (.pair (.list 118 (.pair (.int .i64) (.pair (.int .i64) (.pair .str .str)))) (.list 116 (.pair .str (.list 118 (.pair (.int .i64) (.pair (.int .i64) (.pair .str .str))))))))))))))) } BT.leaf
def bt32:BT:=.node BT.leaf 32 { kind:=.other,size:=1,bytes:=8,agg:=false,zero:=[.bot],cty:=[none],ty:=none } BT.leaf
def bt31:BT:=.node bt30 31 { kind:=.struct [(0,27),(1,28),(2,29)],size:=3,bytes:=72,agg:=true,zero:=[.nil,.nil,.nil],cty:=[some (61,(.pair .str (.pair (.int .i64) (.pair (.int .i64) (.int .i64))))),some (65,(.pair .str (.list 9 .str))),some (71,(.pair (.int .i64) (.pair .str (.pair .str (.pair .str (.pair .str (.pair (.list 118 (.pair (.int .i64) (.pair (.int .i64) (.pair .str .str)))) (.list 116 (.pair .str (.list 118 (.pair (.int .i64) (.pair (.int .i64) (.pair .str .str)))))))))))))],ty:=some (.pair (.list 61 (.pair .str (.pair (.int .i64) (.pair (.int .i64) (.int .i64))))) (.pair (.list 65 (.pair .str (.list 9 .str))) (.list 71 (.pair (.int .i64) (.pair .str (.pair .str (.pair .str (.pair .str (.pair (.list 118 (.pair (.int .i64) (.pair (.int .i64) (.pair .str .str)))) (.list 116 (.pair .str (.list 118 (.pair (.int .i64) (.pair (.int .i64) (.pair .str .str))))))))))))))) } bt32
def bt28:BT:=.node bt25 28 { kind:=.slice 65,size:=1,bytes:=24,agg:=false,zero:=[.nil],cty:=[some (65,(.pair .str (.list 9 .str)))],ty:=some (.list 65 (.pair .str (.list 9 .str))) } bt31
def bt34:BT:=.node BT.leaf 34 { kind:=.other,size:=1,bytes:=8,agg:=false,zero:=[.bot],cty:=[none],ty:=none } BT.leaf
def bt35:BT:=.node bt34 35 { kind:=.other,size:=1,bytes:=8,agg:=false,zero:=[.bot],cty:=[none],ty:=none } BT.leaf
def bt37:BT:=.node BT.leaf 37 { kind:=.other,size:=1,bytes:=8,agg:=false,zero:=[.bot],cty:=[none],ty:=none } BT.leaf
def bt36:BT:=.node bt35 36 { kind:=.other,size:=1,bytes:=8,agg:=false,zero:=[.bot],cty:=[none],ty:=none } bt37
def bt39:BT:=.node BT.leaf 39 { kind:=.struct [(0,38),(1,38)],size:=2,bytes:=48,agg:=true,zero:=[.nil,.nil],cty:=[some (79,(.pair (.pair (.list 3 (.int .i64)) (.list 3 (.int .i64))) (.list 3 (.int .i64)))),some (79,(.pair (.pair (.list 3 (.int .i64)) (.list 3 (.int .i64))) (.list 3 (.int .i64))))],ty:=some (.pair (.list 79 (.pair (.pair (.list 3 (.int .i64)) (.list 3 (.int .i64))) (.list 3 (.int .i64)))) (.list 79 (.pair (.pair (.list 3 (.int .i64)) (.list 3 (.int .i64))) (.list 3 (.int .i64))))) } BT.leaf
def bt40:BT:=.node bt39 40 { kind:=.struct [(0,38),(1,38)],size:=2,bytes:=48,agg:=true,zero:=[.nil,.nil],cty:=[some (79,(.pair (.pair (.list 3 (.int .i64)) (.list 3 (.int .i64))) (.list 3 (.int .i64)))),some (79,(.pair (.pair (.list 3 (.int .i64)) (.list 3 (.int .i64))) (.list 3 (.int .i64))))],ty:=some (.pair (.list 79 (.pair (.pair (.list 3 (.int .i64)) (.list 3 (.int .i64))) (.list 3 (.int .i64)))) (.list 79 (.pair (.pair (.list 3 (.int .i64)) (.list 3 (.int .i64))) (.list 3 (.int .i64))))) } BT.leaf
def bt42:BT:=.node BT.leaf 42 { kind:=.slice 45,size:=1,bytes:=24,agg:=false,zero:=[.nil],cty:=[some (45,(.list 4 .bool))],ty:=some (.list 45 (.list 4 .bool)) } BT.leaf
def bt41:BT:=.node bt40 41 { kind:=.other,size:=1,bytes:=8,agg:=false,zero:=[.bot],cty:=[none],ty:=none } bt42
def bt38:BT:=.node bt36 38 { kind:=.slice 79,size:=1,bytes:=24,agg:=false,zero:=[.nil],cty:=[some (79,(.pair (.pair (.list 3 (.int .i64)) (.list 3 (.int .i64))) (.list 3 (.int .i64))))],ty:=some (.list 79 (.pair (.pair (.list 3 (.int .i64)) (.list 3 (.int .i64))) (.list 3 (.int .i64)))) } bt41
def bt33:BT:=.node bt28 33 { kind:=.slice 73,size:=1,bytes:=24,agg:=false,zero:=[.nil],cty:=[some (73,(.pair (.int .i64) (.list 118 (.pair (.int .i64) (.pair (.int .i64) (.pair .str .str))))))],ty:=some (.list 73 (.pair (.int .i64) (.list 118 (.pair (.int .i64) (.pair (.int .i64) (.pair .str .str)))))) } bt38
def bt22:BT:=.node bt11 22 { kind:=.slice 3,size:=1,bytes:=24,agg:=false,zero:=[.nil],cty:=[some (3,(.int .i64))],ty:=some (.list 3 (.int .i64)) } bt33
def bt44:BT:=.node BT.leaf 44 { kind:=.other,size:=1,bytes:=8,agg:=false,zero:=[.bot],cty:=[none],ty:=none } BT.leaf
def bt45:BT:=.node bt44 45 { kind:=.slice 4,size:=1,bytes:=24,agg:=false,zero:=[.nil],cty:=[some (4,.bool)],ty:=some (.list 4 .bool) } BT.leaf
def bt47:BT:=.node BT.leaf 47 { kind:=.other,size:=1,bytes:=8,agg:=false,zero:=[.bot],cty:=[none],ty:=none } BT.leaf
def bt48:BT:=.node bt47 48 { kind:=.other,size:=1,bytes:=8,agg:=false,zero:=[.bot],cty:=[none],ty:=none } BT.leaf
def bt46:BT:=.node bt45 46 { kind:=.other,size:=1,bytes:=8,agg:=false,zero:=[.bot],cty:=[none],ty:=none } bt48
def bt51:BT:=.node BT.leaf 51 { kind:=.other,size:=1,bytes:=8,agg:=false,zero:=[.bot],cty:=[none],ty:=none } BT.leaf
def bt52:BT:=.node bt51 52 { kind:=.other,size:=1,bytes:=8,agg:=false,zero:=[.bot],cty:=[none],ty:=none } BT.leaf
def bt55:BT:=.node BT.leaf 55 { kind:=.other,size:=1,bytes:=8,agg:=false,zero:=[.bot],cty:=[none],ty:=none } BT.leaf
def bt54:BT:=.node bt52 54 { kind:=.other,size:=1,bytes:=8,agg:=false,zero:=[.bot],cty:=[none],ty:=none } bt55
def bt49:BT:=.node bt46 49 { kind:=.sc,size:=1,bytes:=8,agg:=false,zero:=[.int .i64 0],cty:=[none],ty:=some (.int .i64) } bt54
def bt57:BT:=.node BT.leaf 57 { kind:=.struct [(0,22),(1,3)],size:=2,bytes:=32,agg:=true,zero:=[.nil,.int .i64 0],cty:=[some (3,(.int .i64)),none],ty:=some (.pair (.list 3 (.int .i64)) (.int .i64)) } BT.leaf
def bt58:BT:=.node bt57 58 { kind:=.other,size:=1,bytes:=8,agg:=false,zero:=[.bot],cty:=[none],ty:=none } BT.leaf
def bt60:BT:=.node BT.leaf 60 { kind:=.struct [(0,9),(1,3),(2,3),(3,3)],size:=4,bytes:=40,agg:=true,zero:=[.str [],.int .i64 0,.int .i64 0,.int .i64 0],cty:=[none,none,none,none],ty:=some (.pair .str (.pair (.int .i64) (.pair (.int .i64) (.int .i64)))) } BT.leaf
def bt59:BT:=.node bt58 59 { kind:=.slice 9,size:=1,bytes:=24,agg:=false,zero:=[.nil],cty:=[some (9,.str)],ty:=some (.list 9 .str) } bt60
def bt62:BT:=.node BT.leaf 62 { kind:=.other,size:=1,bytes:=8,agg:=false,zero:=[.bot],cty:=[none],ty:=none } BT.leaf
def bt63:BT:=.node bt62 63 { kind:=.other,size:=1,bytes:=8,agg:=false,zero:=[.bot],cty:=[none],ty:=none } BT.leaf
def bt65:BT:=.node BT.leaf 65 { kind:=.struct [(0,9),(1,59)],size:=2,bytes:=40,agg:=true,zero:=[.str [],.nil],cty:=[none,some (9,.str)],ty:=some (.pair .str (.list 9 .str)) } BT.leaf
def bt64:BT:=.node bt63 64 { kind:=.struct [(0,9),(1,59)],size:=2,bytes:=40,agg:=true,zero:=[.str [],.nil],cty:=[none,some (9,.str)],ty:=some (.pair .str (.list 9 .str)) } bt65
def bt61:BT:=.node bt59 61 { kind:=.struct [(0,9),(1,3),(2,3),(3,3)],size:=4,bytes:=40,agg:=true,zero:=[.str [],.int .i64 0,.int .i64 0,.int .i64 0],cty:=[none,none,none,none],ty:=some (.pair .str (.pair (.int .i64) (.pair (.int .i64) (.int .i64)))),eqf:=true } bt64
def bt56:BT:=.node bt49 56 { kind:=.struct [(0,22),(1,3)],size:=2,bytes:=32,agg:=true,zero:=[.nil,.int .i64 0],cty:=[some (3,(.int .i64)),none],ty:=some (.pair (.list 3 (.int .i64)) (.int .i64)) } bt61
def bt67:BT:=.node BT.leaf 67 { kind:=.other,size:=1,bytes:=8,agg:=false,zero:=[.bot],cty:=[none],ty:=none } BT.leaf
def bt68:BT:=.node bt67 68 { kind:=.slice 118,size:=1,bytes:=24,agg:=false,zero:=[.nil],cty:=[some (118,(.pair (.int .i64) (.pair (.int .i64) (.pair .str .str))))],ty:=some (.list 118 (.pair (.int .i64) (.pair (.int .i64) (.pair .str .str)))) } BT.leaf
def bt70:BT:=.node BT.leaf 70 { kind:=.struct [(0,3),(1,9),(2,9),(3,9),(4,9),(5,68),(6,69)],size:=7,bytes:=120,agg:=true,zero:=[.int .i64 0,.str [],.str [],.str [],.str [],.nil,.nil],cty:=[none,none,none,none,none,some (118,(.pair (.int .i64) (.pair (.int .i64) (.pair .str .str)))),some (116,(.pair .str (.list 118 (.pair (.int .i64) (.pair (.int .i64) (.pair .str .str))))))],ty:=some (.pair (.int .i64) (.pair .str (.pair .str (.pair .str (.pair .str (.pair (.list 118 (.pair (.int .i64) (.pair (.int .i64) (.pair .str .str)))) (.list 116 (.pair .str (.list 118 (.pair (.int .i64) (.pair (.int .i64) (.pair .str .str)))))))))))) } BT.leaf
def bt71:BT:=.node bt70 71 { kind:=.struct [(0,3),(1,9),(2,9),(3,9),(4,9),(5,68),(6,69)],size:=7,bytes:=120,agg:=true,zero:=[.int .i64 0,.str [],.str [],.str [],.str [],.nil,.nil],cty:=[none,none,none,none,none,some (118,(.pair (.int .i64) (.pair (.int .i64) (.pair .str .str)))),some (116,(.pair .str (.list 118 (.pair (.int .i64) (.pair (.int .i64) (.pair .str .str))))))],ty:=some (.pair (.int .i64) (.pair .str (.pair .str (.pair .str (.pair .str (.pair (.list 118 (.pair (.int .i64) (.pair (.int .i64) (.pair .str .str)))) (.list 116 (.pair .str (.list 118 (.pair (.int .i64) (.pair (.int .i64) (.pair .str .str)))))))))))) } BT.leaf
def bt69:BT:=.node bt68 69 { kind:=.slice 116,size:=1,bytes:=24,agg:=false,zero:=[.nil],cty:=[some (116,(.pair .str (.list 118 (.pair (.int .i64) (.pair (.int .i64) (.pair .str .str))))))],ty:=some (.list 116 (.pair .str (.list 118 (.pair (.int .i64) (.pair (.int .i64) (.pair .str .str)))))) } bt71
def bt73:BT:=.node BT.leaf 73 { kind:=.struct [(0,3),(1,68)],size:=2,bytes:=32,agg:=true,zero:=[.int .i64 0,.nil],cty:=[none,some (118,(.pair (.int .i64) (.pair (.int .i64) (.pair .str .str))))],ty:=some (.pair (.int .i64) (.list 118 (.pair (.int .i64) (.pair (.int .i64) (.pair .str .str))))) } BT.leaf
def bt74:BT:=.node bt73 74 { kind:=.other,size:=1,bytes:=8,agg:=false,zero:=[.bot],cty:=[none],ty:=none } BT.leaf
def bt76:BT:=.node BT.leaf 76 { kind:=.struct [(0,22),(1,22)],size:=2,bytes:=48,agg:=true,zero:=[.nil,.nil],cty:=[some (3,(.int .i64)),some (3,(.int .i64))],ty:=some (.pair (.list 3 (.int .i64)) (.list 3 (.int .i64))) } BT.leaf
def bt75:BT:=.node bt74 75 { kind:=.struct [(0,22),(1,22)],size:=2,bytes:=48,agg:=true,zero:=[.nil,.nil],cty:=[some (3,(.int .i64)),some (3,(.int .i64))],ty:=some (.pair (.list 3 (.int .i64)) (.list 3 (.int .i64))) } bt76
def bt72:BT:=.node bt69 72 { kind:=.struct [(0,3),(1,68)],size:=2,bytes:=32,agg:=true,zero:=[.int .i64 0,.nil],cty:=[none,some (118,(.pair (.int .i64) (.pair (.int .i64) (.pair .str .str))))],ty:=some (.pair (.int .i64) (.list 118 (.pair (.int .i64) (.pair (.int .i64) (.pair .str .str))))) } bt75
def bt78:BT:=.node BT.leaf 78 { kind:=.struct [(0,76),(2,22)],size:=3,bytes:=72,agg:=true,zero:=[.nil,.nil,.nil],cty:=[some (3,(.int .i64)),some (3,(.int .i64)),some (3,(.int .i64))],ty:=some (.pair (.pair (.list 3 (.int .i64)) (.list 3 (.int .i64))) (.list 3 (.int .i64))) } BT.leaf
def bt79:BT:=.node bt78 79 { kind:=.struct [(0,76),(2,22)],size:=3,bytes:=72,agg:=true,zero:=[.nil,.nil,.nil],cty:=[some (3,(.int .i64)),some (3,(.int .i64)),some (3,(.int .i64))],ty:=some (.pair (.pair (.list 3 (.int .i64)) (.list 3 (.int .i64))) (.list 3 (.int .i64))) } BT.leaf
def bt81:BT:=.node BT.leaf 81 { kind:=.other,size:=1,bytes:=8,agg:=false,zero:=[.bot],cty:=[none],ty:=none } BT.leaf
def bt80:BT:=.node bt79 80 { kind:=.other,size:=1,bytes:=8,agg:=false,zero:=[.bot],cty:=[none],ty:=none } bt81
def bt83:BT:=.node BT.leaf 83 { kind:=.other,size:=1,bytes:=8,agg:=false,zero:=[.bot],cty:=[none],ty:=none } BT.leaf
def bt84:BT:=.node bt83 84 { kind:=.other,size:=1,bytes:=8,agg:=false,zero:=[.bot],cty:=[none],ty:=none } BT.leaf
def bt86:BT:=.node BT.leaf 86 { kind:=.other,size:=1,bytes:=8,agg:=false,zero:=[.bot],cty:=[none],ty:=none } BT.leaf
def bt85:BT:=.node bt84 85 { kind:=.other,size:=1,bytes:=8,agg:=false,zero:=[.bot],cty:=[none],ty:=none } bt86
def bt82:BT:=.node bt80 82 { kind:=.other,size:=1,bytes:=8,agg:=false,zero:=[.bot],cty:=[none],ty:=none } bt85
def bt77:BT:=.node bt72 77 { kind:=.other,size:=1,bytes:=8,agg:=false,zero:=[.bot],cty:=[none],ty:=none } bt82
def bt66:BT:=.node bt56 66 { kind:=.other,size:=1,bytes:=8,agg:=false,zero:=[.bot],cty:=[none],ty:=none } bt77
def bt43:BT:=.node bt22 43 { kind:=.other,size:=1,bytes:=8,agg:=false,zero:=[.bot],cty:=[none],ty:=none } bt66
def bt88:BT:=.node BT.leaf 88 { kind:=.other,size:=1,bytes:=8,agg:=false,zero:=[.bot],cty:=[none],ty:=none } BT.leaf
def bt90:BT:=.node bt88 90 { kind:=.other,size:=1,bytes:=8,agg:=false,zero:=[.bot],cty:=[none],ty:=none } BT.leaf
def bt93:BT:=.node BT.leaf 93 { kind:=.other,size:=1,bytes:=8,agg:=false,zero:=[.bot],cty:=[none],ty:=none } BT.leaf
def bt94:BT:=.node bt93 94 { kind:=.other,size:=1,bytes:=8,agg:=false,zero:=[.bot],cty:=[none],ty:=none } BT.leaf
def bt92:BT:=.node bt90 92 { kind:=.other,size:=1,bytes:=8,agg:=false,zero:=[.bot],cty:=[none],ty:=none } bt94
def bt96:BT:=.node BT.leaf 96 { kind:=.array 2 9,size:=2,bytes:=32,agg:=true,zero:=[.str [],.str []],cty:=[none,none],ty:=none } BT.leaf
def bt97:BT:=.node bt96 97 { kind:=.other,size:=1,bytes:=8,agg:=false,zero:=[.bot],cty:=[none],ty:=none } BT.leaf
def bt100:BT:=.node BT.leaf 100 { kind:=.other,size:=1,bytes:=8,agg:=false,zero:=[.bot],cty:=[none],ty:=none } BT.leaf
def bt98:BT:=.node bt97 98 { kind:=.slice 106,size:=1,bytes:=24,agg:=false,zero:=[.nil],cty:=[some (106,(.pair (.int .i64) (.pair .str (.pair (.int .i64) (.int .i64)))))],ty:=some (.list 106 (.pair (.int .i64) (.pair .str (.pair (.int .i64) (.int .i64))))) } bt100
def bt95:BT:=.node bt92 95 { kind:=.array 3 9,size:=3,bytes:=48,agg:=true,zero:=[.str [],.str [],.str []],cty:=[none,none,none],ty:=none } bt98
def bt102:BT:=.node BT.leaf 102 { kind:=.struct [(0,98),(1,3),(2,33),(3,49),(4,3)],size:=5,bytes:=72,agg:=true,zero:=[.nil,.int .i64 0,.nil,.int .i64 0,.int .i64 0],cty:=[some (106,(.pair (.int .i64) (.pair .str (.pair (.int .i64) (.int .i64))))),none,some (73,(.pair (.int .i64) (.list 118 (.pair (.int .i64) (.pair (.int .i64) (.pair .str .str)))))),none,none],ty:=some (.pair (.list 106 (.pair (.int .i64) (.pair .str (.pair (.int .i64) (.int .i64))))) (.pair (.int .i64) (.pair (.list 73 (.pair (.int .i64) (.list 118 (.pair (.int .i64) (.pair (.int .i64) (.pair .str .str)))))) (.pair (.int .i64) (.int .i64))))) } BT.leaf
def bt103:BT:=.node bt102 103 { kind:=.struct [(0,98),(1,3),(2,33),(3,49),(4,3)],size:=5,bytes:=72,agg:=true,zero:=[.nil,.int .i64 0,.nil,.int .i64 0,.int .i64 0],cty:=[some (106,(.pair (.int .i64) (.pair .str (.pair (.int .i64) (.int .i64))))),none,some (73,(.pair (.int .i64) (.list 118 (.pair (.int .i64) (.pair (.int .i64) (.pair .str .str)))))),none,none],ty:=some (.pair (.list 106 (.pair (.int .i64) (.pair .str (.pair (.int .i64) (.int .i64))))) (.pair (.int .i64) (.pair (.list 73 (.pair (.int .i64) (.list 118 (.pair (.int .i64) (.pair (.int .i64) (.pair .str .str)))))) (.pair (.int .i64) (.int .i64))))) } BT.leaf
def bt105:BT:=.node BT.leaf 105 { kind:=.struct [(0,3),(1,9),(2,3),(3,3)],size:=4,bytes:=40,agg:=true,zero:=[.int .i64 0,.str [],.int .i64 0,.int .i64 0],cty:=[none,none,none,none],ty:=some (.pair (.int .i64) (.pair .str (.pair (.int .i64) (.int .i64)))) } BT.leaf
def bt104:BT:=.node bt103 104 { kind:=.other,size:=1,bytes:=8,agg:=false,zero:=[.bot],cty:=[none],ty:=none } bt105
def bt107:BT:=.node BT.leaf 107 { kind:=.other,size:=1,bytes:=8,agg:=false,zero:=[.bot],cty:=[none],ty:=none } BT.leaf
def bt108:BT:=.node bt107 108 { kind:=.other,size:=1,bytes:=8,agg:=false,zero:=[.bot],cty:=[none],ty:=none } BT.leaf
def bt110:BT:=.node BT.leaf 110 { kind:=.other,size:=1,bytes:=8,agg:=false,zero:=[.bot],cty:=[none],ty:=none } BT.leaf
def bt109:BT:=.node bt108 109 { kind:=.array 6 9,size:=6,bytes:=96,agg:=true,zero:=[.str [],.str [],.str [],.str [],.str [],.str []],cty:=[none,none,none,none,none,none],ty:=none } bt110
def bt106:BT:=.node bt104 106 { kind:=.struct [(0,3),(1,9),(2,3),(3,3)],size:=4,bytes:=40,agg:=true,zero:=[.int .i64 0,.str [],.int .i64 0,.int .i64 0],cty:=[none,none,none,none],ty:=some (.pair (.int .i64) (.pair .str (.pair (.int .i64) (.int .i64)))),eqf:=true } bt109
def bt101:BT:=.node bt95 101 { kind:=.other,size:=1,bytes:=8,agg:=false,zero:=[.bot],cty:=[none],ty:=none } bt106
def bt113:BT:=.node BT.leaf 113 { kind:=.other,size:=1,bytes:=8,agg:=false,zero:=[.bot],cty:=[none],ty:=none } BT.leaf
def bt114:BT:=.node bt113 114 { kind:=.other,size:=1,bytes:=8,agg:=false,zero:=[.bot],cty:=[none],ty:=none } BT.leaf
def bt116:BT:=.node BT.leaf 116 { kind:=.struct [(0,9),(1,68)],size:=2,bytes:=40,agg:=true,zero:=[.str [],.nil],cty:=[none,some (118,(.pair (.int .i64) (.pair (.int .i64) (.pair .str .str))))],ty:=some (.pair .str (.list 118 (.pair (.int .i64) (.pair (.int .i64) (.pair .str .str))))) } BT.leaf
def bt117:BT:=.node bt116 117 { kind:=.struct [(0,3),(1,3),(2,9),(3,9)],size:=4,bytes:=48,agg:=true,zero:=[.int .i64 0,.int .i64 0,.str [],.str []],cty:=[none,none,none,none],ty:=some (.pair (.int .i64) (.pair (.int .i64) (.pair .str .str))) } BT.leaf
def bt115:BT:=.node bt114 115 { kind:=.struct [(0,9),(1,68)],size:=2,bytes:=40,agg:=true,zero:=[.str [],.nil],cty:=[none,some (118,(.pair (.int .i64) (.pair (.int .i64) (.pair .str .str))))],ty:=some (.pair .str (.list 118 (.pair (.int .i64) (.pair (.int .i64) (.pair .str .str))))) } bt117
def bt119:BT:=.node BT.leaf 119 { kind:=.other,size:=1,bytes:=8,agg:=false,zero:=[.bot],cty:=[none],ty:=none } BT.leaf
def bt120:BT:=.node bt119 120 { kind:=.other,size:=1,bytes:=8,agg:=false,zero:=[.bot],cty:=[none],ty:=none } BT.leaf
def bt122:BT:=.node BT.leaf 122 { kind:=.other,size:=1,bytes:=8,agg:=false,zero:=[.bot],cty:=[none],ty:=none } BT.leaf
def bt121:BT:=.node bt120 121 { kind:=.other,size:=1,bytes:=8,agg:=false,zero:=[.bot],cty:=[none],ty:=none } bt122
def bt118:BT:=.node bt115 118 { kind:=.struct [(0,3),(1,3),(2,9),(3,9)],size:=4,bytes:=48,agg:=true,zero:=[.int .i64 0,.int .i64 0,.str [],.str []],cty:=[none,none,none,none],ty:=some (.pair (.int .i64) (.pair (.int .i64) (.pair .str .str))),eqf:=true } bt121
def bt124:BT:=.node BT.leaf 124 { kind:=.struct [(0,33),(1,23),(2,33)],size:=3,bytes:=72,agg:=true,zero:=[.nil,.nil,.nil],cty:=[some (73,(.pair (.int .i64) (.list 118 (.pair (.int .i64) (.pair (.int .i64) (.pair .str .str)))))),some (22,(.list 3 (.int .i64))),some (73,(.pair (.int .i64) (.list 118 (.pair (.int .i64) (.pair (.int .i64) (.pair .str .str))))))],ty:=some (.pair (.list 73 (.pair (.int .i64) (.list 118 (.pair (.int .i64) (.pair (.int .i64) (.pair .str .str)))))) (.pair (.list 22 (.list 3 (.int .i64))) (.list 73 (.pair (.int .i64) (.list 118 (.pair (.int .i64) (.pair (.int .i64) (.pair .str .str)))))))) } BT.leaf
def bt125:BT:=.node bt124 125 { kind:=.struct [(0,33),(1,23),(2,33)],size:=3,bytes:=72,agg:=true,zero:=[.nil,.nil,.nil],cty:=[some (73,(.pair (.int .i64) (.list 118 (.pair (.int .i64) (.pair (.int .i64) (.pair .str .str)))))),some (22,(.list 3 (.int .i64))),some (73,(.pair (.int .i64) (.list 118 (.pair (.int .i64) (.pair (.int .i64) (.pair .str .str))))))],ty:=some (.pair (.list 73 (.pair (.int .i64) (.list 118 (.pair (.int .i64) (.pair (.int .i64) (.pair .str .str)))))) (.pair (.list 22 (.list 3 (.int .i64))) (.list 73 (.pair (.int .i64) (.list 118 (.pair (.int .i64) (.pair (.int .i64) (.pair .str .str)))))))) } BT.leaf
def bt127:BT:=.node BT.leaf 127 { kind:=.slice 129,size:=1,bytes:=24,agg:=false,zero:=[.nil],cty:=[some (129,(.pair .str (.int .i64)))],ty:=some (.list 129 (.pair .str (.int .i64))) } BT.leaf
def bt126:BT:=.node bt125 126 { kind:=.other,size:=1,bytes:=8,agg:=false,zero:=[.bot],cty:=[none],ty:=none } bt127
def bt129:BT:=.node BT.leaf 129 { kind:=.struct [(0,9),(1,3)],size:=2,bytes:=24,agg:=true,zero:=[.str [],.int .i64 0],cty:=[none,none],ty:=some (.pair .str (.int .i64)),eqf:=true } BT.leaf
def bt130:BT:=.node bt129 130 { kind:=.other,size:=1,bytes:=8,agg:=false,zero:=[.bot],cty:=[none],ty:=none } BT.leaf
def bt132:BT:=.node BT.leaf 132 { kind:=.other,size:=1,bytes:=8,agg:=false,zero:=[.bot],cty:=[none],ty:=none } BT.leaf
def bt131:BT:=.node bt130 131 { kind:=.other,size:=1,bytes:=8,agg:=false,zero:=[.bot],cty:=[none],ty:=none } bt132
def bt128:BT:=.node bt126 128 { kind:=.struct [(0,9),(1,3)],size:=2,bytes:=24,agg:=true,zero:=[.str [],.int .i64 0],cty:=[none,none],ty:=some (.pair .str (.int .i64)) } bt131
def bt123:BT:=.node bt118 123 { kind:=.other,size:=1,bytes:=8,agg:=false,zero:=[.bot],cty:=[none],ty:=none } bt128
def bt111:BT:=.node bt101 111 { kind:=.other,size:=1,bytes:=8,agg:=false,zero:=[.bot],cty:=[none],ty:=none } bt123
def bt136:BT:=.node BT.leaf 136 { kind:=.other,size:=1,bytes:=8,agg:=false,zero:=[.bot],cty:=[none],ty:=none } BT.leaf
def bt138:BT:=.node bt136 138 { kind:=.other,size:=1,bytes:=8,agg:=false,zero:=[.bot],cty:=[none],ty:=none } BT.leaf
def bt140:BT:=.node BT.leaf 140 { kind:=.array 4 9,size:=4,bytes:=64,agg:=true,zero:=[.str [],.str [],.str [],.str []],cty:=[none,none,none,none],ty:=none } BT.leaf
def bt141:BT:=.node bt140 141 { kind:=.array 8 9,size:=8,bytes:=128,agg:=true,zero:=[.str [],.str [],.str [],.str [],.str [],.str [],.str [],.str []],cty:=[none,none,none,none,none,none,none,none],ty:=none } BT.leaf
def bt139:BT:=.node bt138 139 { kind:=.other,size:=1,bytes:=8,agg:=false,zero:=[.bot],cty:=[none],ty:=none } bt141
def bt143:BT:=.node BT.leaf 143 { kind:=.array 4 3,size:=4,bytes:=32,agg:=true,zero:=[.int .i64 0,.int .i64 0,.int .i64 0,.int .i64 0],cty:=[none,none,none,none],ty:=none } BT.leaf
def bt144:BT:=.node bt143 144 { kind:=.other,size:=1,bytes:=8,agg:=false,zero:=[.bot],cty:=[none],ty:=none } BT.leaf
def bt146:BT:=.node BT.leaf 146 { kind:=.slice 149,size:=1,bytes:=24,agg:=false,zero:=[.nil],cty:=[some (149,(.pair .str (.int .i64)))],ty:=some (.list 149 (.pair .str (.int .i64))) } BT.leaf
def bt145:BT:=.node bt144 145 { kind:=.other,size:=1,bytes:=8,agg:=false,zero:=[.bot],cty:=[none],ty:=none } bt146
def bt142:BT:=.node bt139 142 { kind:=.other,size:=1,bytes:=8,agg:=false,zero:=[.bot],cty:=[none],ty:=none } bt145
def bt148:BT:=.node BT.leaf 148 { kind:=.struct [(0,9),(1,3)],size:=2,bytes:=24,agg:=true,zero:=[.str [],.int .i64 0],cty:=[none,none],ty:=some (.pair .str (.int .i64)) } BT.leaf
def bt149:BT:=.node bt148 149 { kind:=.struct [(0,9),(1,3)],size:=2,bytes:=24,agg:=true,zero:=[.str [],.int .i64 0],cty:=[none,none],ty:=some (.pair .str (.int .i64)),eqf:=true } BT.leaf
def bt152:BT:=.node BT.leaf 152 { kind:=.other,size:=1,bytes:=8,agg:=false,zero:=[.bot],cty:=[none],ty:=none } BT.leaf
def bt150:BT:=.node bt149 150 { kind:=.other,size:=1,bytes:=8,agg:=false,zero:=[.bot],cty:=[none],ty:=none } bt152
def bt154:BT:=.node BT.leaf 154 { kind:=.other,size:=1,bytes:=8,agg:=false,zero:=[.bot],cty:=[none],ty:=none } BT.leaf
def bt155:BT:=.node bt154 155 { kind:=.other,size:=1,bytes:=8,agg:=false,zero:=[.bot],cty:=[none],ty:=none } BT.leaf
def bt157:BT:=.node BT.leaf 157 { kind:=.array 9 9,size:=9,bytes:=144,agg:=true,zero:=[.str [],.str [],.str [],.str [],.str [],.str [],.str [],.str [],.str []],cty:=[none,none,none,none,none,none,none,none,none],ty:=none } BT.leaf
def bt156:BT:=.node bt155 156 { kind:=.sc,size:=1,bytes:=8,agg:=false,zero:=[.int .u64 0],cty:=[none],ty:=some (.int .u64) } bt157
def bt153:BT:=.node bt150 153 { kind:=.other,size:=1,bytes:=8,agg:=false,zero:=[.bot],cty:=[none],ty:=none } bt156
def bt147:BT:=.node bt142 147 { kind:=.array 17 9,size:=17,bytes:=272,agg:=true,zero:=[.str [],.str [],.str [],.str [],.str [],.str [],.str [],.str [],.str [],.str [],.str [],.str [],.str [],.str [],.str [],.str [],.str []],cty:=[none,none,none,none,none,none,none,none,none,none,none,none,none,none,none,none,none],ty:=none } bt153
def bt159:BT:=.node BT.leaf 159 { kind:=.other,size:=1,bytes:=8,agg:=false,zero:=[.bot],cty:=[none],ty:=none } BT.leaf
def bt160:BT:=.node bt159 160 { kind:=.other,size:=1,bytes:=8,agg:=false,zero:=[.bot],cty:=[none],ty:=none } BT.leaf
def bt162:BT:=.node BT.leaf 162 { kind:=.other,size:=1,bytes:=8,agg:=false,zero:=[.bot],cty:=[none],ty:=none } BT.leaf
def bt163:BT:=.node bt162 163 { kind:=.struct [(0,98),(1,3),(2,68),(3,3)],size:=4,bytes:=64,agg:=true,zero:=[.nil,.int .i64 0,.nil,.int .i64 0],cty:=[some (106,(.pair (.int .i64) (.pair .str (.pair (.int .i64) (.int .i64))))),none,some (118,(.pair (.int .i64) (.pair (.int .i64) (.pair .str .str)))),none],ty:=some (.pair (.list 106 (.pair (.int .i64) (.pair .str (.pair (.int .i64) (.int .i64))))) (.pair (.int .i64) (.pair (.list 118 (.pair (.int .i64) (.pair (.int .i64) (.pair .str .str)))) (.int .i64)))) } BT.leaf
def bt161:BT:=.node bt160 161 { kind:=.other,size:=1,bytes:=8,agg:=false,zero:=[.bot],cty:=[none],ty:=none } bt163
def bt165:BT:=.node BT.leaf 165 { kind:=.other,size:=1,bytes:=8,agg:=false,zero:=[.bot],cty:=[none],ty:=none } BT.leaf
def bt166:BT:=.node bt165 166 { kind:=.other,size:=1,bytes:=8,agg:=false,zero:=[.bot],cty:=[none],ty:=none } BT.leaf
def bt168:BT:=.node BT.leaf 168 { kind:=.struct [(0,17),(1,17),(2,17),(3,9)],size:=4,bytes:=40,agg:=true,zero:=[.bot,.bot,.bot,.str []],cty:=[none,none,none,none],ty:=none } BT.leaf
def bt167:BT:=.node bt166 167 { kind:=.struct [(0,17),(1,17),(2,17),(3,9)],size:=4,bytes:=40,agg:=true,zero:=[.bot,.bot,.bot,.str []],cty:=[none,none,none,none],ty:=none } bt168
def bt164:BT:=.node bt161 164 { kind:=.struct [(0,98),(1,3),(2,68),(3,3)],size:=4,bytes:=64,agg:=true,zero:=[.nil,.int .i64 0,.nil,.int .i64 0],cty:=[some (106,(.pair (.int .i64) (.pair .str (.pair (.int .i64) (.int .i64))))),none,some (118,(.pair (.int .i64) (.pair (.int .i64) (.pair .str .str)))),none],ty:=some (.pair (.list 106 (.pair (.int .i64) (.pair .str (.pair (.int .i64) (.int .i64))))) (.pair (.int .i64) (.pair (.list 118 (.pair (.int .i64) (.pair (.int .i64) (.pair .str .str)))) (.int .i64)))) } bt167
def bt173:BT:=.node BT.leaf 173 { kind:=.sc,size:=1,bytes:=4,agg:=false,zero:=[.int .u32 0],cty:=[none],ty:=some (.int .u32) } BT.leaf
def bt174:BT:=.node bt173 174 { kind:=.sc,size:=1,bytes:=1,agg:=false,zero:=[.int .u8 0],cty:=[none],ty:=some (.int .u8) } BT.leaf
def bt176:BT:=.node BT.leaf 176 { kind:=.other,size:=1,bytes:=8,agg:=false,zero:=[.bot],cty:=[none],ty:=none } BT.leaf
def bt175:BT:=.node bt174 175 { kind:=.sc,size:=1,bytes:=1,agg:=false,zero:=[.int .u8 0],cty:=[none],ty:=some (.int .u8) } bt176
def bt178:BT:=.node BT.leaf 178 { kind:=.sc,size:=1,bytes:=4,agg:=false,zero:=[.int .i32 0],cty:=[none],ty:=some (.int .i32) } BT.leaf
def bt179:BT:=.node bt178 179 { kind:=.sc,size:=1,bytes:=4,agg:=false,zero:=[.int .i32 0],cty:=[none],ty:=some (.int .i32) } BT.leaf
def bt181:BT:=.node BT.leaf 181 { kind:=.struct [(0,12),(1,12),(2,173),(3,174),(4,5),(5,5),(6,175),(7,176),(8,177),(9,178),(10,179)],size:=11,bytes:=48,agg:=true,zero:=[.int .u64 0,.int .u64 0,.int .u32 0,.int .u8 0,.int .u8 0,.int .u8 0,.int .u8 0,.bot,.bot,.int .i32 0,.int .i32 0],cty:=[none,none,none,none,none,none,none,none,none,none,none],ty:=none } BT.leaf
def bt180:BT:=.node bt179 180 { kind:=.struct [(0,12),(1,12),(2,173),(3,174),(4,5),(5,5),(6,175),(7,176),(8,177),(9,178),(10,179)],size:=11,bytes:=48,agg:=true,zero:=[.int .u64 0,.int .u64 0,.int .u32 0,.int .u8 0,.int .u8 0,.int .u8 0,.int .u8 0,.bot,.bot,.int .i32 0,.int .i32 0],cty:=[none,none,none,none,none,none,none,none,none,none,none],ty:=none } bt181
def bt177:BT:=.node bt175 177 { kind:=.other,size:=1,bytes:=8,agg:=false,zero:=[.bot],cty:=[none],ty:=none } bt180
def bt172:BT:=.node bt164 172 { kind:=.other,size:=1,bytes:=8,agg:=false,zero:=[.bot],cty:=[none],ty:=none } bt177
def bt158:BT:=.node bt147 158 { kind:=.array 11 9,size:=11,bytes:=176,agg:=true,zero:=[.str [],.str [],.str [],.str [],.str [],.str [],.str [],.str [],.str [],.str [],.str []],cty:=[none,none,none,none,none,none,none,none,none,none,none],ty:=none } bt172
def bt134:BT:=.node bt111 134 { kind:=.other,size:=1,bytes:=8,agg:=false,zero:=[.bot],cty:=[none],ty:=none } bt158
def bt87:BT:=.node bt43 87 { kind:=.other,size:=1,bytes:=8,agg:=false,zero:=[.bot],cty:=[none],ty:=none } bt134
def tab:BT:=bt87
def tau:Nat→Option TI:=tab.get
end Go.Proofs.YtfdlgmbbflmbgaaGreatDoor.Av
