/- The table of the seat's types, for the abstract evaluator. Conditions: none. -/
import Derived.Test.YtfdlgmbbflmbgaaAv1
namespace Go.Proofs.Ytfdlgmbbflmbgaa.Av
open Go
def owL : List (Nat × Nat) := [(67, 4)]
abbrev ty2 : Ty := (.int .i64)
abbrev ty3 : Ty := (.int .i64)
abbrev ty4 : Ty := .bool
abbrev ty5 : Ty := (.int .u8)
abbrev ty6 : Ty := (.int .u8)
abbrev ty7 : Ty := (.pair (.int .i64) (.pair (.int .i64) (.pair .bool (.int .u8))))
abbrev ty8 : Ty := (.pair (.int .i64) (.pair (.int .i64) (.pair .bool (.int .u8))))
abbrev ty9 : Ty := .str
abbrev ty10 : Ty := .str
abbrev ty11 : Ty := .str
abbrev ty12 : Ty := (.int .u64)
abbrev ty13 : Ty := (.pair .str (.int .u64))
abbrev ty14 : Ty := (.pair .str (.int .u64))
abbrev ty21 : Ty := (.int .i32)
abbrev ty22 : Ty := (.list 3 (.int .i64))
abbrev ty23 : Ty := (.list 4 .bool)
abbrev ty26 : Ty := (.list 9 .str)
abbrev ty28 : Ty := (.list 33 (.pair (.int .i64) (.pair .str (.pair (.int .i64) (.int .i64)))))
abbrev ty29 : Ty := (.int .i64)
abbrev ty32 : Ty := (.pair (.int .i64) (.pair .str (.pair (.int .i64) (.int .i64))))
abbrev ty33 : Ty := (.pair (.int .i64) (.pair .str (.pair (.int .i64) (.int .i64))))
abbrev ty35 : Ty := (.list 5 (.int .u8))
abbrev ty37 : Ty := (.list 23 (.list 4 .bool))
abbrev ty41 : Ty := (.list 66 (.pair (.int .i64) (.list 98 (.pair (.int .i64) (.pair (.int .i64) (.pair .str .str))))))
abbrev ty62 : Ty := (.list 22 (.list 3 (.int .i64)))
abbrev ty64 : Ty := (.list 98 (.pair (.int .i64) (.pair (.int .i64) (.pair .str .str))))
abbrev ty65 : Ty := (.pair (.int .i64) (.list 98 (.pair (.int .i64) (.pair (.int .i64) (.pair .str .str)))))
abbrev ty66 : Ty := (.pair (.int .i64) (.list 98 (.pair (.int .i64) (.pair (.int .i64) (.pair .str .str)))))
abbrev ty69 : Ty := (.pair (.list 3 (.int .i64)) (.int .i64))
abbrev ty70 : Ty := (.pair (.list 3 (.int .i64)) (.int .i64))
abbrev ty73 : Ty := (.list 76 (.pair .str (.int .i64)))
abbrev ty75 : Ty := (.pair .str (.int .i64))
abbrev ty76 : Ty := (.pair .str (.int .i64))
abbrev ty85 : Ty := (.pair (.list 33 (.pair (.int .i64) (.pair .str (.pair (.int .i64) (.int .i64))))) (.pair (.int .i64) (.pair (.list 66 (.pair (.int .i64) (.list 98 (.pair (.int .i64) (.pair (.int .i64) (.pair .str .str)))))) (.pair (.int .i64) (.int .i64)))))
abbrev ty86 : Ty := (.pair (.list 33 (.pair (.int .i64) (.pair .str (.pair (.int .i64) (.int .i64))))) (.pair (.int .i64) (.pair (.list 66 (.pair (.int .i64) (.list 98 (.pair (.int .i64) (.pair (.int .i64) (.pair .str .str)))))) (.pair (.int .i64) (.int .i64)))))
abbrev ty95 : Ty := (.list 100 (.pair .str (.int .i64)))
abbrev ty97 : Ty := (.pair (.int .i64) (.pair (.int .i64) (.pair .str .str)))
abbrev ty98 : Ty := (.pair (.int .i64) (.pair (.int .i64) (.pair .str .str)))
abbrev ty99 : Ty := (.pair .str (.int .i64))
abbrev ty100 : Ty := (.pair .str (.int .i64))
abbrev ty103 : Ty := (.pair (.list 66 (.pair (.int .i64) (.list 98 (.pair (.int .i64) (.pair (.int .i64) (.pair .str .str)))))) (.pair (.list 22 (.list 3 (.int .i64))) (.list 66 (.pair (.int .i64) (.list 98 (.pair (.int .i64) (.pair (.int .i64) (.pair .str .str))))))))
abbrev ty104 : Ty := (.pair (.list 66 (.pair (.int .i64) (.list 98 (.pair (.int .i64) (.pair (.int .i64) (.pair .str .str)))))) (.pair (.list 22 (.list 3 (.int .i64))) (.list 66 (.pair (.int .i64) (.list 98 (.pair (.int .i64) (.pair (.int .i64) (.pair .str .str))))))))
abbrev ty108 : Ty := (.int .u64)
abbrev ty118 : Ty := (.pair (.list 33 (.pair (.int .i64) (.pair .str (.pair (.int .i64) (.int .i64))))) (.pair (.int .i64) (.pair (.list 98 (.pair (.int .i64) (.pair (.int .i64) (.pair .str .str)))) (.int .i64))))
abbrev ty119 : Ty := (.pair (.list 33 (.pair (.int .i64) (.pair .str (.pair (.int .i64) (.int .i64))))) (.pair (.int .i64) (.pair (.list 98 (.pair (.int .i64) (.pair (.int .i64) (.pair .str .str)))) (.int .i64))))
abbrev ty128 : Ty := (.int .u32)
abbrev ty129 : Ty := (.int .u8)
abbrev ty130 : Ty := (.int .u8)
abbrev ty133 : Ty := (.int .i32)
abbrev ty134 : Ty := (.int .i32)
def bt1 : BT := .node BT.leaf 1 { kind := .other, size := 1, bytes := 8, agg := false, zero := [.bot], cty := [none], ty := none } BT.leaf
def bt2 : BT := .node bt1 2 { kind := .sc, size := 1, bytes := 8, agg := false, zero := [.int .i64 0], cty := [none], ty := some (.int .i64) } BT.leaf
def bt4 : BT := .node BT.leaf 4 { kind := .sc, size := 1, bytes := 1, agg := false, zero := [.bool false], cty := [none], ty := some .bool } BT.leaf
def bt3 : BT := .node bt2 3 { kind := .sc, size := 1, bytes := 8, agg := false, zero := [.int .i64 0], cty := [none], ty := some (.int .i64) } bt4
def bt6 : BT := .node BT.leaf 6 { kind := .sc, size := 1, bytes := 1, agg := false, zero := [.int .u8 0], cty := [none], ty := some (.int .u8) } BT.leaf
def bt8 : BT := .node BT.leaf 8 { kind := .struct [(0, 2), (1, 3), (2, 4), (3, 6)], size := 4, bytes := 24, agg := true, zero := [.int .i64 0, .int .i64 0, .bool false, .int .u8 0], cty := [none, none, none, none], ty := some (.pair (.int .i64) (.pair (.int .i64) (.pair .bool (.int .u8)))) } BT.leaf
def bt7 : BT := .node bt6 7 { kind := .struct [(0, 2), (1, 3), (2, 4), (3, 6)], size := 4, bytes := 24, agg := true, zero := [.int .i64 0, .int .i64 0, .bool false, .int .u8 0], cty := [none, none, none, none], ty := some (.pair (.int .i64) (.pair (.int .i64) (.pair .bool (.int .u8)))) } bt8
def bt5 : BT := .node bt3 5 { kind := .sc, size := 1, bytes := 1, agg := false, zero := [.int .u8 0], cty := [none], ty := some (.int .u8) } bt7
def bt10 : BT := .node BT.leaf 10 { kind := .sc, size := 1, bytes := 16, agg := false, zero := [.str []], cty := [none], ty := some .str } BT.leaf
def bt12 : BT := .node BT.leaf 12 { kind := .sc, size := 1, bytes := 8, agg := false, zero := [.int .u64 0], cty := [none], ty := some (.int .u64) } BT.leaf
def bt11 : BT := .node bt10 11 { kind := .sc, size := 1, bytes := 16, agg := false, zero := [.str []], cty := [none], ty := some .str } bt12
def bt14 : BT := .node BT.leaf 14 { kind := .struct [(0, 9), (1, 12)], size := 2, bytes := 24, agg := true, zero := [.str [], .int .u64 0], cty := [none, none], ty := some (.pair .str (.int .u64)) } BT.leaf
def bt16 : BT := .node BT.leaf 16 { kind := .other, size := 1, bytes := 8, agg := false, zero := [.bot], cty := [none], ty := none } BT.leaf
def bt15 : BT := .node bt14 15 { kind := .other, size := 1, bytes := 8, agg := false, zero := [.bot], cty := [none], ty := none } bt16
def bt13 : BT := .node bt11 13 { kind := .struct [(0, 9), (1, 12)], size := 2, bytes := 24, agg := true, zero := [.str [], .int .u64 0], cty := [none, none], ty := some (.pair .str (.int .u64)) } bt15
def bt9 : BT := .node bt5 9 { kind := .sc, size := 1, bytes := 16, agg := false, zero := [.str []], cty := [none], ty := some .str } bt13
def bt18 : BT := .node BT.leaf 18 { kind := .struct [(0, 17)], size := 1, bytes := 8, agg := true, zero := [.bot], cty := [none], ty := none } BT.leaf
def bt21 : BT := .node BT.leaf 21 { kind := .sc, size := 1, bytes := 4, agg := false, zero := [.int .i32 0], cty := [none], ty := some (.int .i32) } BT.leaf
def bt19 : BT := .node bt18 19 { kind := .struct [(0, 17)], size := 1, bytes := 8, agg := true, zero := [.bot], cty := [none], ty := none } bt21
def bt23 : BT := .node BT.leaf 23 { kind := .slice 4, size := 1, bytes := 24, agg := false, zero := [.nil], cty := [some (4, .bool)], ty := some (.list 4 .bool) } BT.leaf
def bt25 : BT := .node BT.leaf 25 { kind := .array 26 9, size := 26, bytes := 416, agg := true, zero := [.str [], .str [], .str [], .str [], .str [], .str [], .str [], .str [], .str [], .str [], .str [], .str [], .str [], .str [], .str [], .str [], .str [], .str [], .str [], .str [], .str [], .str [], .str [], .str [], .str [], .str []], cty := [none, none, none, none, none, none, none, none, none, none, none, none, none, none, none, none, none, none, none, none, none, none, none, none, none, none], ty := none } BT.leaf
def bt24 : BT := .node bt23 24 { kind := .other, size := 1, bytes := 8, agg := false, zero := [.bot], cty := [none], ty := none } bt25
def bt22 : BT := .node bt19 22 { kind := .slice 3, size := 1, bytes := 24, agg := false, zero := [.nil], cty := [some (3, (.int .i64))], ty := some (.list 3 (.int .i64)) } bt24
def bt27 : BT := .node BT.leaf 27 { kind := .other, size := 1, bytes := 8, agg := false, zero := [.bot], cty := [none], ty := none } BT.leaf
def bt29 : BT := .node BT.leaf 29 { kind := .sc, size := 1, bytes := 8, agg := false, zero := [.int .i64 0], cty := [none], ty := some (.int .i64) } BT.leaf
def bt28 : BT := .node bt27 28 { kind := .slice 33, size := 1, bytes := 24, agg := false, zero := [.nil], cty := [some (33, (.pair (.int .i64) (.pair .str (.pair (.int .i64) (.int .i64)))))], ty := some (.list 33 (.pair (.int .i64) (.pair .str (.pair (.int .i64) (.int .i64))))) } bt29
def bt32 : BT := .node BT.leaf 32 { kind := .struct [(0, 3), (1, 9), (2, 3), (3, 3)], size := 4, bytes := 40, agg := true, zero := [.int .i64 0, .str [], .int .i64 0, .int .i64 0], cty := [none, none, none, none], ty := some (.pair (.int .i64) (.pair .str (.pair (.int .i64) (.int .i64)))) } BT.leaf
def bt34 : BT := .node BT.leaf 34 { kind := .other, size := 1, bytes := 8, agg := false, zero := [.bot], cty := [none], ty := none } BT.leaf
def bt33 : BT := .node bt32 33 { kind := .struct [(0, 3), (1, 9), (2, 3), (3, 3)], size := 4, bytes := 40, agg := true, zero := [.int .i64 0, .str [], .int .i64 0, .int .i64 0], cty := [none, none, none, none], ty := some (.pair (.int .i64) (.pair .str (.pair (.int .i64) (.int .i64)))), eqf := true } bt34
def bt31 : BT := .node bt28 31 { kind := .other, size := 1, bytes := 8, agg := false, zero := [.bot], cty := [none], ty := none } bt33
def bt26 : BT := .node bt22 26 { kind := .slice 9, size := 1, bytes := 24, agg := false, zero := [.nil], cty := [some (9, .str)], ty := some (.list 9 .str) } bt31
def bt17 : BT := .node bt9 17 { kind := .other, size := 1, bytes := 8, agg := false, zero := [.bot], cty := [none], ty := none } bt26
def bt36 : BT := .node BT.leaf 36 { kind := .other, size := 1, bytes := 8, agg := false, zero := [.bot], cty := [none], ty := none } BT.leaf
def bt39 : BT := .node BT.leaf 39 { kind := .other, size := 1, bytes := 8, agg := false, zero := [.bot], cty := [none], ty := none } BT.leaf
def bt37 : BT := .node bt36 37 { kind := .slice 23, size := 1, bytes := 24, agg := false, zero := [.nil], cty := [some (23, (.list 4 .bool))], ty := some (.list 23 (.list 4 .bool)) } bt39
def bt41 : BT := .node BT.leaf 41 { kind := .slice 66, size := 1, bytes := 24, agg := false, zero := [.nil], cty := [some (66, (.pair (.int .i64) (.list 98 (.pair (.int .i64) (.pair (.int .i64) (.pair .str .str))))))], ty := some (.list 66 (.pair (.int .i64) (.list 98 (.pair (.int .i64) (.pair (.int .i64) (.pair .str .str)))))) } BT.leaf
def bt43 : BT := .node BT.leaf 43 { kind := .other, size := 1, bytes := 8, agg := false, zero := [.bot], cty := [none], ty := none } BT.leaf
def bt42 : BT := .node bt41 42 { kind := .other, size := 1, bytes := 8, agg := false, zero := [.bot], cty := [none], ty := none } bt43
def bt40 : BT := .node bt37 40 { kind := .other, size := 1, bytes := 8, agg := false, zero := [.bot], cty := [none], ty := none } bt42
def bt45 : BT := .node BT.leaf 45 { kind := .other, size := 1, bytes := 8, agg := false, zero := [.bot], cty := [none], ty := none } BT.leaf
def bt47 : BT := .node BT.leaf 47 { kind := .other, size := 1, bytes := 8, agg := false, zero := [.bot], cty := [none], ty := none } BT.leaf
def bt46 : BT := .node bt45 46 { kind := .other, size := 1, bytes := 8, agg := false, zero := [.bot], cty := [none], ty := none } bt47
def bt49 : BT := .node BT.leaf 49 { kind := .other, size := 1, bytes := 8, agg := false, zero := [.bot], cty := [none], ty := none } BT.leaf
def bt51 : BT := .node BT.leaf 51 { kind := .other, size := 1, bytes := 8, agg := false, zero := [.bot], cty := [none], ty := none } BT.leaf
def bt50 : BT := .node bt49 50 { kind := .other, size := 1, bytes := 8, agg := false, zero := [.bot], cty := [none], ty := none } bt51
def bt48 : BT := .node bt46 48 { kind := .other, size := 1, bytes := 8, agg := false, zero := [.bot], cty := [none], ty := none } bt50
def bt44 : BT := .node bt40 44 { kind := .other, size := 1, bytes := 8, agg := false, zero := [.bot], cty := [none], ty := none } bt48
def bt53 : BT := .node BT.leaf 53 { kind := .other, size := 1, bytes := 8, agg := false, zero := [.bot], cty := [none], ty := none } BT.leaf
def bt55 : BT := .node BT.leaf 55 { kind := .other, size := 1, bytes := 8, agg := false, zero := [.bot], cty := [none], ty := none } BT.leaf
def bt54 : BT := .node bt53 54 { kind := .other, size := 1, bytes := 8, agg := false, zero := [.bot], cty := [none], ty := none } bt55
def bt57 : BT := .node BT.leaf 57 { kind := .other, size := 1, bytes := 8, agg := false, zero := [.bot], cty := [none], ty := none } BT.leaf
def bt59 : BT := .node BT.leaf 59 { kind := .other, size := 1, bytes := 8, agg := false, zero := [.bot], cty := [none], ty := none } BT.leaf
def bt58 : BT := .node bt57 58 { kind := .other, size := 1, bytes := 8, agg := false, zero := [.bot], cty := [none], ty := none } bt59
def bt56 : BT := .node bt54 56 { kind := .other, size := 1, bytes := 8, agg := false, zero := [.bot], cty := [none], ty := none } bt58
def bt62 : BT := .node BT.leaf 62 { kind := .slice 22, size := 1, bytes := 24, agg := false, zero := [.nil], cty := [some (22, (.list 3 (.int .i64)))], ty := some (.list 22 (.list 3 (.int .i64))) } BT.leaf
def bt64 : BT := .node BT.leaf 64 { kind := .slice 98, size := 1, bytes := 24, agg := false, zero := [.nil], cty := [some (98, (.pair (.int .i64) (.pair (.int .i64) (.pair .str .str))))], ty := some (.list 98 (.pair (.int .i64) (.pair (.int .i64) (.pair .str .str)))) } BT.leaf
def bt63 : BT := .node bt62 63 { kind := .other, size := 1, bytes := 8, agg := false, zero := [.bot], cty := [none], ty := none } bt64
def bt66 : BT := .node BT.leaf 66 { kind := .struct [(0, 3), (1, 64)], size := 2, bytes := 32, agg := true, zero := [.int .i64 0, .nil], cty := [none, some (98, (.pair (.int .i64) (.pair (.int .i64) (.pair .str .str))))], ty := some (.pair (.int .i64) (.list 98 (.pair (.int .i64) (.pair (.int .i64) (.pair .str .str))))) } BT.leaf
def bt68 : BT := .node BT.leaf 68 { kind := .other, size := 1, bytes := 8, agg := false, zero := [.bot], cty := [none], ty := none } BT.leaf
def bt67 : BT := .node bt66 67 { kind := .other, size := 1, bytes := 8, agg := false, zero := [.bot], cty := [none], ty := none } bt68
def bt65 : BT := .node bt63 65 { kind := .struct [(0, 3), (1, 64)], size := 2, bytes := 32, agg := true, zero := [.int .i64 0, .nil], cty := [none, some (98, (.pair (.int .i64) (.pair (.int .i64) (.pair .str .str))))], ty := some (.pair (.int .i64) (.list 98 (.pair (.int .i64) (.pair (.int .i64) (.pair .str .str))))) } bt67
def bt61 : BT := .node bt56 61 { kind := .other, size := 1, bytes := 8, agg := false, zero := [.bot], cty := [none], ty := none } bt65
def bt52 : BT := .node bt44 52 { kind := .other, size := 1, bytes := 8, agg := false, zero := [.bot], cty := [none], ty := none } bt61
def bt35 : BT := .node bt17 35 { kind := .slice 5, size := 1, bytes := 24, agg := false, zero := [.nil], cty := [some (5, (.int .u8))], ty := some (.list 5 (.int .u8)) } bt52
def bt70 : BT := .node BT.leaf 70 { kind := .struct [(0, 22), (1, 3)], size := 2, bytes := 32, agg := true, zero := [.nil, .int .i64 0], cty := [some (3, (.int .i64)), none], ty := some (.pair (.list 3 (.int .i64)) (.int .i64)) } BT.leaf
def bt72 : BT := .node BT.leaf 72 { kind := .other, size := 1, bytes := 8, agg := false, zero := [.bot], cty := [none], ty := none } BT.leaf
def bt71 : BT := .node bt70 71 { kind := .other, size := 1, bytes := 8, agg := false, zero := [.bot], cty := [none], ty := none } bt72
def bt74 : BT := .node BT.leaf 74 { kind := .other, size := 1, bytes := 8, agg := false, zero := [.bot], cty := [none], ty := none } BT.leaf
def bt76 : BT := .node BT.leaf 76 { kind := .struct [(0, 9), (1, 3)], size := 2, bytes := 24, agg := true, zero := [.str [], .int .i64 0], cty := [none, none], ty := some (.pair .str (.int .i64)), eqf := true } BT.leaf
def bt75 : BT := .node bt74 75 { kind := .struct [(0, 9), (1, 3)], size := 2, bytes := 24, agg := true, zero := [.str [], .int .i64 0], cty := [none, none], ty := some (.pair .str (.int .i64)) } bt76
def bt73 : BT := .node bt71 73 { kind := .slice 76, size := 1, bytes := 24, agg := false, zero := [.nil], cty := [some (76, (.pair .str (.int .i64)))], ty := some (.list 76 (.pair .str (.int .i64))) } bt75
def bt78 : BT := .node BT.leaf 78 { kind := .other, size := 1, bytes := 8, agg := false, zero := [.bot], cty := [none], ty := none } BT.leaf
def bt80 : BT := .node BT.leaf 80 { kind := .other, size := 1, bytes := 8, agg := false, zero := [.bot], cty := [none], ty := none } BT.leaf
def bt79 : BT := .node bt78 79 { kind := .array 4 3, size := 4, bytes := 32, agg := true, zero := [.int .i64 0, .int .i64 0, .int .i64 0, .int .i64 0], cty := [none, none, none, none], ty := none } bt80
def bt82 : BT := .node BT.leaf 82 { kind := .other, size := 1, bytes := 8, agg := false, zero := [.bot], cty := [none], ty := none } BT.leaf
def bt84 : BT := .node BT.leaf 84 { kind := .other, size := 1, bytes := 8, agg := false, zero := [.bot], cty := [none], ty := none } BT.leaf
def bt83 : BT := .node bt82 83 { kind := .other, size := 1, bytes := 8, agg := false, zero := [.bot], cty := [none], ty := none } bt84
def bt81 : BT := .node bt79 81 { kind := .other, size := 1, bytes := 8, agg := false, zero := [.bot], cty := [none], ty := none } bt83
def bt77 : BT := .node bt73 77 { kind := .other, size := 1, bytes := 8, agg := false, zero := [.bot], cty := [none], ty := none } bt81
def bt86 : BT := .node BT.leaf 86 { kind := .struct [(0, 28), (1, 3), (2, 41), (3, 29), (4, 3)], size := 5, bytes := 72, agg := true, zero := [.nil, .int .i64 0, .nil, .int .i64 0, .int .i64 0], cty := [some (33, (.pair (.int .i64) (.pair .str (.pair (.int .i64) (.int .i64))))), none, some (66, (.pair (.int .i64) (.list 98 (.pair (.int .i64) (.pair (.int .i64) (.pair .str .str)))))), none, none], ty := some (.pair (.list 33 (.pair (.int .i64) (.pair .str (.pair (.int .i64) (.int .i64))))) (.pair (.int .i64) (.pair (.list 66 (.pair (.int .i64) (.list 98 (.pair (.int .i64) (.pair (.int .i64) (.pair .str .str)))))) (.pair (.int .i64) (.int .i64))))) } BT.leaf
def bt88 : BT := .node BT.leaf 88 { kind := .other, size := 1, bytes := 8, agg := false, zero := [.bot], cty := [none], ty := none } BT.leaf
def bt87 : BT := .node bt86 87 { kind := .other, size := 1, bytes := 8, agg := false, zero := [.bot], cty := [none], ty := none } bt88
def bt90 : BT := .node BT.leaf 90 { kind := .other, size := 1, bytes := 8, agg := false, zero := [.bot], cty := [none], ty := none } BT.leaf
def bt92 : BT := .node BT.leaf 92 { kind := .array 3 9, size := 3, bytes := 48, agg := true, zero := [.str [], .str [], .str []], cty := [none, none, none], ty := none } BT.leaf
def bt91 : BT := .node bt90 91 { kind := .array 2 9, size := 2, bytes := 32, agg := true, zero := [.str [], .str []], cty := [none, none], ty := none } bt92
def bt89 : BT := .node bt87 89 { kind := .other, size := 1, bytes := 8, agg := false, zero := [.bot], cty := [none], ty := none } bt91
def bt94 : BT := .node BT.leaf 94 { kind := .other, size := 1, bytes := 8, agg := false, zero := [.bot], cty := [none], ty := none } BT.leaf
def bt96 : BT := .node BT.leaf 96 { kind := .array 17 9, size := 17, bytes := 272, agg := true, zero := [.str [], .str [], .str [], .str [], .str [], .str [], .str [], .str [], .str [], .str [], .str [], .str [], .str [], .str [], .str [], .str [], .str []], cty := [none, none, none, none, none, none, none, none, none, none, none, none, none, none, none, none, none], ty := none } BT.leaf
def bt95 : BT := .node bt94 95 { kind := .slice 100, size := 1, bytes := 24, agg := false, zero := [.nil], cty := [some (100, (.pair .str (.int .i64)))], ty := some (.list 100 (.pair .str (.int .i64))) } bt96
def bt98 : BT := .node BT.leaf 98 { kind := .struct [(0, 3), (1, 3), (2, 9), (3, 9)], size := 4, bytes := 48, agg := true, zero := [.int .i64 0, .int .i64 0, .str [], .str []], cty := [none, none, none, none], ty := some (.pair (.int .i64) (.pair (.int .i64) (.pair .str .str))), eqf := true } BT.leaf
def bt100 : BT := .node BT.leaf 100 { kind := .struct [(0, 9), (1, 3)], size := 2, bytes := 24, agg := true, zero := [.str [], .int .i64 0], cty := [none, none], ty := some (.pair .str (.int .i64)), eqf := true } BT.leaf
def bt99 : BT := .node bt98 99 { kind := .struct [(0, 9), (1, 3)], size := 2, bytes := 24, agg := true, zero := [.str [], .int .i64 0], cty := [none, none], ty := some (.pair .str (.int .i64)) } bt100
def bt97 : BT := .node bt95 97 { kind := .struct [(0, 3), (1, 3), (2, 9), (3, 9)], size := 4, bytes := 48, agg := true, zero := [.int .i64 0, .int .i64 0, .str [], .str []], cty := [none, none, none, none], ty := some (.pair (.int .i64) (.pair (.int .i64) (.pair .str .str))) } bt99
def bt93 : BT := .node bt89 93 { kind := .array 6 9, size := 6, bytes := 96, agg := true, zero := [.str [], .str [], .str [], .str [], .str [], .str []], cty := [none, none, none, none, none, none], ty := none } bt97
def bt85 : BT := .node bt77 85 { kind := .struct [(0, 28), (1, 3), (2, 41), (3, 29), (4, 3)], size := 5, bytes := 72, agg := true, zero := [.nil, .int .i64 0, .nil, .int .i64 0, .int .i64 0], cty := [some (33, (.pair (.int .i64) (.pair .str (.pair (.int .i64) (.int .i64))))), none, some (66, (.pair (.int .i64) (.list 98 (.pair (.int .i64) (.pair (.int .i64) (.pair .str .str)))))), none, none], ty := some (.pair (.list 33 (.pair (.int .i64) (.pair .str (.pair (.int .i64) (.int .i64))))) (.pair (.int .i64) (.pair (.list 66 (.pair (.int .i64) (.list 98 (.pair (.int .i64) (.pair (.int .i64) (.pair .str .str)))))) (.pair (.int .i64) (.int .i64))))) } bt93
def bt102 : BT := .node BT.leaf 102 { kind := .other, size := 1, bytes := 8, agg := false, zero := [.bot], cty := [none], ty := none } BT.leaf
def bt104 : BT := .node BT.leaf 104 { kind := .struct [(0, 41), (1, 62), (2, 41)], size := 3, bytes := 72, agg := true, zero := [.nil, .nil, .nil], cty := [some (66, (.pair (.int .i64) (.list 98 (.pair (.int .i64) (.pair (.int .i64) (.pair .str .str)))))), some (22, (.list 3 (.int .i64))), some (66, (.pair (.int .i64) (.list 98 (.pair (.int .i64) (.pair (.int .i64) (.pair .str .str))))))], ty := some (.pair (.list 66 (.pair (.int .i64) (.list 98 (.pair (.int .i64) (.pair (.int .i64) (.pair .str .str)))))) (.pair (.list 22 (.list 3 (.int .i64))) (.list 66 (.pair (.int .i64) (.list 98 (.pair (.int .i64) (.pair (.int .i64) (.pair .str .str)))))))) } BT.leaf
def bt103 : BT := .node bt102 103 { kind := .struct [(0, 41), (1, 62), (2, 41)], size := 3, bytes := 72, agg := true, zero := [.nil, .nil, .nil], cty := [some (66, (.pair (.int .i64) (.list 98 (.pair (.int .i64) (.pair (.int .i64) (.pair .str .str)))))), some (22, (.list 3 (.int .i64))), some (66, (.pair (.int .i64) (.list 98 (.pair (.int .i64) (.pair (.int .i64) (.pair .str .str))))))], ty := some (.pair (.list 66 (.pair (.int .i64) (.list 98 (.pair (.int .i64) (.pair (.int .i64) (.pair .str .str)))))) (.pair (.list 22 (.list 3 (.int .i64))) (.list 66 (.pair (.int .i64) (.list 98 (.pair (.int .i64) (.pair (.int .i64) (.pair .str .str)))))))) } bt104
def bt106 : BT := .node BT.leaf 106 { kind := .other, size := 1, bytes := 8, agg := false, zero := [.bot], cty := [none], ty := none } BT.leaf
def bt108 : BT := .node BT.leaf 108 { kind := .sc, size := 1, bytes := 8, agg := false, zero := [.int .u64 0], cty := [none], ty := some (.int .u64) } BT.leaf
def bt107 : BT := .node bt106 107 { kind := .other, size := 1, bytes := 8, agg := false, zero := [.bot], cty := [none], ty := none } bt108
def bt105 : BT := .node bt103 105 { kind := .other, size := 1, bytes := 8, agg := false, zero := [.bot], cty := [none], ty := none } bt107
def bt110 : BT := .node BT.leaf 110 { kind := .other, size := 1, bytes := 8, agg := false, zero := [.bot], cty := [none], ty := none } BT.leaf
def bt112 : BT := .node BT.leaf 112 { kind := .other, size := 1, bytes := 8, agg := false, zero := [.bot], cty := [none], ty := none } BT.leaf
def bt111 : BT := .node bt110 111 { kind := .array 9 9, size := 9, bytes := 144, agg := true, zero := [.str [], .str [], .str [], .str [], .str [], .str [], .str [], .str [], .str []], cty := [none, none, none, none, none, none, none, none, none], ty := none } bt112
def bt115 : BT := .node BT.leaf 115 { kind := .other, size := 1, bytes := 8, agg := false, zero := [.bot], cty := [none], ty := none } BT.leaf
def bt117 : BT := .node BT.leaf 117 { kind := .other, size := 1, bytes := 8, agg := false, zero := [.bot], cty := [none], ty := none } BT.leaf
def bt116 : BT := .node bt115 116 { kind := .other, size := 1, bytes := 8, agg := false, zero := [.bot], cty := [none], ty := none } bt117
def bt114 : BT := .node bt111 114 { kind := .other, size := 1, bytes := 8, agg := false, zero := [.bot], cty := [none], ty := none } bt116
def bt109 : BT := .node bt105 109 { kind := .other, size := 1, bytes := 8, agg := false, zero := [.bot], cty := [none], ty := none } bt114
def bt119 : BT := .node BT.leaf 119 { kind := .struct [(0, 28), (1, 3), (2, 64), (3, 3)], size := 4, bytes := 64, agg := true, zero := [.nil, .int .i64 0, .nil, .int .i64 0], cty := [some (33, (.pair (.int .i64) (.pair .str (.pair (.int .i64) (.int .i64))))), none, some (98, (.pair (.int .i64) (.pair (.int .i64) (.pair .str .str)))), none], ty := some (.pair (.list 33 (.pair (.int .i64) (.pair .str (.pair (.int .i64) (.int .i64))))) (.pair (.int .i64) (.pair (.list 98 (.pair (.int .i64) (.pair (.int .i64) (.pair .str .str)))) (.int .i64)))) } BT.leaf
def bt121 : BT := .node BT.leaf 121 { kind := .other, size := 1, bytes := 8, agg := false, zero := [.bot], cty := [none], ty := none } BT.leaf
def bt120 : BT := .node bt119 120 { kind := .other, size := 1, bytes := 8, agg := false, zero := [.bot], cty := [none], ty := none } bt121
def bt123 : BT := .node BT.leaf 123 { kind := .struct [(0, 17), (1, 17), (2, 17), (3, 9)], size := 4, bytes := 40, agg := true, zero := [.bot, .bot, .bot, .str []], cty := [none, none, none, none], ty := none } BT.leaf
def bt128 : BT := .node BT.leaf 128 { kind := .sc, size := 1, bytes := 4, agg := false, zero := [.int .u32 0], cty := [none], ty := some (.int .u32) } BT.leaf
def bt127 : BT := .node bt123 127 { kind := .other, size := 1, bytes := 8, agg := false, zero := [.bot], cty := [none], ty := none } bt128
def bt122 : BT := .node bt120 122 { kind := .struct [(0, 17), (1, 17), (2, 17), (3, 9)], size := 4, bytes := 40, agg := true, zero := [.bot, .bot, .bot, .str []], cty := [none, none, none, none], ty := none } bt127
def bt130 : BT := .node BT.leaf 130 { kind := .sc, size := 1, bytes := 1, agg := false, zero := [.int .u8 0], cty := [none], ty := some (.int .u8) } BT.leaf
def bt132 : BT := .node BT.leaf 132 { kind := .other, size := 1, bytes := 8, agg := false, zero := [.bot], cty := [none], ty := none } BT.leaf
def bt131 : BT := .node bt130 131 { kind := .other, size := 1, bytes := 8, agg := false, zero := [.bot], cty := [none], ty := none } bt132
def bt134 : BT := .node BT.leaf 134 { kind := .sc, size := 1, bytes := 4, agg := false, zero := [.int .i32 0], cty := [none], ty := some (.int .i32) } BT.leaf
def bt136 : BT := .node BT.leaf 136 { kind := .struct [(0, 12), (1, 12), (2, 128), (3, 129), (4, 5), (5, 5), (6, 130), (7, 131), (8, 132), (9, 133), (10, 134)], size := 11, bytes := 48, agg := true, zero := [.int .u64 0, .int .u64 0, .int .u32 0, .int .u8 0, .int .u8 0, .int .u8 0, .int .u8 0, .bot, .bot, .int .i32 0, .int .i32 0], cty := [none, none, none, none, none, none, none, none, none, none, none], ty := none } BT.leaf
def bt135 : BT := .node bt134 135 { kind := .struct [(0, 12), (1, 12), (2, 128), (3, 129), (4, 5), (5, 5), (6, 130), (7, 131), (8, 132), (9, 133), (10, 134)], size := 11, bytes := 48, agg := true, zero := [.int .u64 0, .int .u64 0, .int .u32 0, .int .u8 0, .int .u8 0, .int .u8 0, .int .u8 0, .bot, .bot, .int .i32 0, .int .i32 0], cty := [none, none, none, none, none, none, none, none, none, none, none], ty := none } bt136
def bt133 : BT := .node bt131 133 { kind := .sc, size := 1, bytes := 4, agg := false, zero := [.int .i32 0], cty := [none], ty := some (.int .i32) } bt135
def bt129 : BT := .node bt122 129 { kind := .sc, size := 1, bytes := 1, agg := false, zero := [.int .u8 0], cty := [none], ty := some (.int .u8) } bt133
def bt118 : BT := .node bt109 118 { kind := .struct [(0, 28), (1, 3), (2, 64), (3, 3)], size := 4, bytes := 64, agg := true, zero := [.nil, .int .i64 0, .nil, .int .i64 0], cty := [some (33, (.pair (.int .i64) (.pair .str (.pair (.int .i64) (.int .i64))))), none, some (98, (.pair (.int .i64) (.pair (.int .i64) (.pair .str .str)))), none], ty := some (.pair (.list 33 (.pair (.int .i64) (.pair .str (.pair (.int .i64) (.int .i64))))) (.pair (.int .i64) (.pair (.list 98 (.pair (.int .i64) (.pair (.int .i64) (.pair .str .str)))) (.int .i64)))) } bt129
def bt101 : BT := .node bt85 101 { kind := .other, size := 1, bytes := 8, agg := false, zero := [.bot], cty := [none], ty := none } bt118
def bt69 : BT := .node bt35 69 { kind := .struct [(0, 22), (1, 3)], size := 2, bytes := 32, agg := true, zero := [.nil, .int .i64 0], cty := [some (3, (.int .i64)), none], ty := some (.pair (.list 3 (.int .i64)) (.int .i64)) } bt101
def tab : BT := bt69
def tau : Nat → Option TI := tab.get
end Go.Proofs.Ytfdlgmbbflmbgaa.Av
