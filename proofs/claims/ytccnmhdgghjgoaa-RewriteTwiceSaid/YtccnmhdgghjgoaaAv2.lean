/- The table of the seat's types, for the abstract evaluator. Conditions: none. -/
import Derived.Test.YtccnmhdgghjgoaaAv1
namespace Go.Proofs.Ytccnmhdgghjgoaa.Av
open Go
def owL : List (Nat × Nat) := [(63, 4), (70, 1000), (93, 1000)]
def glL : List (Nat × List CV) := []
abbrev ty2 : Ty := (.int .i64)
abbrev ty3 : Ty := (.int .i64)
abbrev ty4 : Ty := .bool
abbrev ty5 : Ty := (.int .u8)
abbrev ty6 : Ty := (.int .u8)
abbrev ty7 : Ty := (.pair (.int .i64) (.pair (.int .i64) (.pair .bool (.int .u8))))
abbrev ty8 : Ty := (.pair (.int .i64) (.pair (.int .i64) (.pair .bool (.int .u8))))
abbrev ty9 : Ty := .str
abbrev ty10 : Ty := .str
abbrev ty11 : Ty := .str
abbrev ty12 : Ty := (.int .u64)
abbrev ty13 : Ty := (.pair .str (.int .u64))
abbrev ty14 : Ty := (.pair .str (.int .u64))
abbrev ty21 : Ty := (.int .i32)
abbrev ty24 : Ty := (.list 36 (.pair (.int .i64) (.list 97 (.pair (.int .i64) (.pair (.int .i64) (.pair .str .str))))))
abbrev ty27 : Ty := (.list 3 (.int .i64))
abbrev ty31 : Ty := (.list 27 (.list 3 (.int .i64)))
abbrev ty34 : Ty := (.list 97 (.pair (.int .i64) (.pair (.int .i64) (.pair .str .str))))
abbrev ty35 : Ty := (.pair (.int .i64) (.list 97 (.pair (.int .i64) (.pair (.int .i64) (.pair .str .str)))))
abbrev ty36 : Ty := (.pair (.int .i64) (.list 97 (.pair (.int .i64) (.pair (.int .i64) (.pair .str .str)))))
abbrev ty37 : Ty := (.list 70 (.pair .str (.pair (.int .i64) (.pair (.int .i64) (.int .i64)))))
abbrev ty38 : Ty := (.list 73 (.pair .str (.list 9 .str)))
abbrev ty39 : Ty := (.list 124 (.pair (.int .i64) (.pair .str (.pair .str (.pair .str (.pair .str (.pair (.list 97 (.pair (.int .i64) (.pair (.int .i64) (.pair .str .str)))) (.list 148 (.pair .str (.list 97 (.pair (.int .i64) (.pair (.int .i64) (.pair .str .str)))))))))))))
abbrev ty40 : Ty := (.pair (.list 70 (.pair .str (.pair (.int .i64) (.pair (.int .i64) (.int .i64))))) (.pair (.list 73 (.pair .str (.list 9 .str))) (.list 124 (.pair (.int .i64) (.pair .str (.pair .str (.pair .str (.pair .str (.pair (.list 97 (.pair (.int .i64) (.pair (.int .i64) (.pair .str .str)))) (.list 148 (.pair .str (.list 97 (.pair (.int .i64) (.pair (.int .i64) (.pair .str .str)))))))))))))))
abbrev ty41 : Ty := (.pair (.list 70 (.pair .str (.pair (.int .i64) (.pair (.int .i64) (.int .i64))))) (.pair (.list 73 (.pair .str (.list 9 .str))) (.list 124 (.pair (.int .i64) (.pair .str (.pair .str (.pair .str (.pair .str (.pair (.list 97 (.pair (.int .i64) (.pair (.int .i64) (.pair .str .str)))) (.list 148 (.pair .str (.list 97 (.pair (.int .i64) (.pair (.int .i64) (.pair .str .str)))))))))))))))
abbrev ty42 : Ty := (.list 77 (.pair (.pair (.list 3 (.int .i64)) (.list 3 (.int .i64))) (.list 3 (.int .i64))))
abbrev ty43 : Ty := (.pair (.list 77 (.pair (.pair (.list 3 (.int .i64)) (.list 3 (.int .i64))) (.list 3 (.int .i64)))) (.list 77 (.pair (.pair (.list 3 (.int .i64)) (.list 3 (.int .i64))) (.list 3 (.int .i64)))))
abbrev ty44 : Ty := (.pair (.list 77 (.pair (.pair (.list 3 (.int .i64)) (.list 3 (.int .i64))) (.list 3 (.int .i64)))) (.list 77 (.pair (.pair (.list 3 (.int .i64)) (.list 3 (.int .i64))) (.list 3 (.int .i64)))))
abbrev ty47 : Ty := (.list 49 (.list 4 .bool))
abbrev ty49 : Ty := (.list 4 .bool)
abbrev ty54 : Ty := (.list 24 (.list 36 (.pair (.int .i64) (.list 97 (.pair (.int .i64) (.pair (.int .i64) (.pair .str .str)))))))
abbrev ty58 : Ty := (.int .i64)
abbrev ty62 : Ty := (.pair (.list 3 (.int .i64)) (.int .i64))
abbrev ty63 : Ty := (.pair (.list 3 (.int .i64)) (.int .i64))
abbrev ty69 : Ty := (.pair .str (.pair (.int .i64) (.pair (.int .i64) (.int .i64))))
abbrev ty70 : Ty := (.pair .str (.pair (.int .i64) (.pair (.int .i64) (.int .i64))))
abbrev ty71 : Ty := (.list 9 .str)
abbrev ty72 : Ty := (.pair .str (.list 9 .str))
abbrev ty73 : Ty := (.pair .str (.list 9 .str))
abbrev ty74 : Ty := (.pair (.list 3 (.int .i64)) (.list 3 (.int .i64)))
abbrev ty75 : Ty := (.pair (.list 3 (.int .i64)) (.list 3 (.int .i64)))
abbrev ty76 : Ty := (.pair (.pair (.list 3 (.int .i64)) (.list 3 (.int .i64))) (.list 3 (.int .i64)))
abbrev ty77 : Ty := (.pair (.pair (.list 3 (.int .i64)) (.list 3 (.int .i64))) (.list 3 (.int .i64)))
abbrev ty80 : Ty := (.pair (.pair (.list 70 (.pair .str (.pair (.int .i64) (.pair (.int .i64) (.int .i64))))) (.pair (.list 73 (.pair .str (.list 9 .str))) (.list 124 (.pair (.int .i64) (.pair .str (.pair .str (.pair .str (.pair .str (.pair (.list 97 (.pair (.int .i64) (.pair (.int .i64) (.pair .str .str)))) (.list 148 (.pair .str (.list 97 (.pair (.int .i64) (.pair (.int .i64) (.pair .str .str))))))))))))))) (.pair (.list 77 (.pair (.pair (.list 3 (.int .i64)) (.list 3 (.int .i64))) (.list 3 (.int .i64)))) (.int .i64)))
abbrev ty81 : Ty := (.pair (.pair (.list 70 (.pair .str (.pair (.int .i64) (.pair (.int .i64) (.int .i64))))) (.pair (.list 73 (.pair .str (.list 9 .str))) (.list 124 (.pair (.int .i64) (.pair .str (.pair .str (.pair .str (.pair .str (.pair (.list 97 (.pair (.int .i64) (.pair (.int .i64) (.pair .str .str)))) (.list 148 (.pair .str (.list 97 (.pair (.int .i64) (.pair (.int .i64) (.pair .str .str))))))))))))))) (.pair (.list 77 (.pair (.pair (.list 3 (.int .i64)) (.list 3 (.int .i64))) (.list 3 (.int .i64)))) (.int .i64)))
abbrev ty87 : Ty := (.list 89 (.pair .str (.int .i64)))
abbrev ty88 : Ty := (.pair .str (.int .i64))
abbrev ty89 : Ty := (.pair .str (.int .i64))
abbrev ty96 : Ty := (.pair (.int .i64) (.pair (.int .i64) (.pair .str .str)))
abbrev ty97 : Ty := (.pair (.int .i64) (.pair (.int .i64) (.pair .str .str)))
abbrev ty98 : Ty := (.list 106 (.pair (.int .i64) (.pair .str (.pair (.int .i64) (.int .i64)))))
abbrev ty102 : Ty := (.pair (.list 106 (.pair (.int .i64) (.pair .str (.pair (.int .i64) (.int .i64))))) (.pair (.int .i64) (.pair (.list 36 (.pair (.int .i64) (.list 97 (.pair (.int .i64) (.pair (.int .i64) (.pair .str .str)))))) (.pair (.int .i64) (.int .i64)))))
abbrev ty103 : Ty := (.pair (.list 106 (.pair (.int .i64) (.pair .str (.pair (.int .i64) (.int .i64))))) (.pair (.int .i64) (.pair (.list 36 (.pair (.int .i64) (.list 97 (.pair (.int .i64) (.pair (.int .i64) (.pair .str .str)))))) (.pair (.int .i64) (.int .i64)))))
abbrev ty105 : Ty := (.pair (.int .i64) (.pair .str (.pair (.int .i64) (.int .i64))))
abbrev ty106 : Ty := (.pair (.int .i64) (.pair .str (.pair (.int .i64) (.int .i64))))
abbrev ty116 : Ty := (.list 42 (.list 77 (.pair (.pair (.list 3 (.int .i64)) (.list 3 (.int .i64))) (.list 3 (.int .i64)))))
abbrev ty122 : Ty := (.list 148 (.pair .str (.list 97 (.pair (.int .i64) (.pair (.int .i64) (.pair .str .str))))))
abbrev ty123 : Ty := (.pair (.int .i64) (.pair .str (.pair .str (.pair .str (.pair .str (.pair (.list 97 (.pair (.int .i64) (.pair (.int .i64) (.pair .str .str)))) (.list 148 (.pair .str (.list 97 (.pair (.int .i64) (.pair (.int .i64) (.pair .str .str))))))))))))
abbrev ty124 : Ty := (.pair (.int .i64) (.pair .str (.pair .str (.pair .str (.pair .str (.pair (.list 97 (.pair (.int .i64) (.pair (.int .i64) (.pair .str .str)))) (.list 148 (.pair .str (.list 97 (.pair (.int .i64) (.pair (.int .i64) (.pair .str .str))))))))))))
abbrev ty127 : Ty := (.list 130 (.pair .str (.int .i64)))
abbrev ty129 : Ty := (.pair .str (.int .i64))
abbrev ty130 : Ty := (.pair .str (.int .i64))
abbrev ty147 : Ty := (.pair .str (.list 97 (.pair (.int .i64) (.pair (.int .i64) (.pair .str .str)))))
abbrev ty148 : Ty := (.pair .str (.list 97 (.pair (.int .i64) (.pair (.int .i64) (.pair .str .str)))))
abbrev ty154 : Ty := (.int .u64)
abbrev ty168 : Ty := (.pair (.list 106 (.pair (.int .i64) (.pair .str (.pair (.int .i64) (.int .i64))))) (.pair (.int .i64) (.pair (.list 97 (.pair (.int .i64) (.pair (.int .i64) (.pair .str .str)))) (.int .i64))))
abbrev ty169 : Ty := (.pair (.list 106 (.pair (.int .i64) (.pair .str (.pair (.int .i64) (.int .i64))))) (.pair (.int .i64) (.pair (.list 97 (.pair (.int .i64) (.pair (.int .i64) (.pair .str .str)))) (.int .i64))))
abbrev ty179 : Ty := (.int .u32)
abbrev ty180 : Ty := (.int .u8)
abbrev ty181 : Ty := (.int .u8)
abbrev ty184 : Ty := (.int .i32)
abbrev ty185 : Ty := (.int .i32)
def bt1 : BT := .node BT.leaf 1 { kind := .other, size := 1, bytes := 8, agg := false, zero := [.bot], cty := [none], ty := none } BT.leaf
def bt2 : BT := .node bt1 2 { kind := .sc, size := 1, bytes := 8, agg := false, zero := [.int .i64 0], cty := [none], ty := some (.int .i64) } BT.leaf
def bt4 : BT := .node BT.leaf 4 { kind := .sc, size := 1, bytes := 1, agg := false, zero := [.bool false], cty := [none], ty := some .bool } BT.leaf
def bt5 : BT := .node bt4 5 { kind := .sc, size := 1, bytes := 1, agg := false, zero := [.int .u8 0], cty := [none], ty := some (.int .u8) } BT.leaf
def bt3 : BT := .node bt2 3 { kind := .sc, size := 1, bytes := 8, agg := false, zero := [.int .i64 0], cty := [none], ty := some (.int .i64) } bt5
def bt7 : BT := .node BT.leaf 7 { kind := .struct [(0, 2), (1, 3), (2, 4), (3, 6)], size := 4, bytes := 24, agg := true, zero := [.int .i64 0, .int .i64 0, .bool false, .int .u8 0], cty := [none, none, none, none], ty := some (.pair (.int .i64) (.pair (.int .i64) (.pair .bool (.int .u8)))) } BT.leaf
def bt8 : BT := .node bt7 8 { kind := .struct [(0, 2), (1, 3), (2, 4), (3, 6)], size := 4, bytes := 24, agg := true, zero := [.int .i64 0, .int .i64 0, .bool false, .int .u8 0], cty := [none, none, none, none], ty := some (.pair (.int .i64) (.pair (.int .i64) (.pair .bool (.int .u8)))) } BT.leaf
def bt10 : BT := .node BT.leaf 10 { kind := .sc, size := 1, bytes := 16, agg := false, zero := [.str []], cty := [none], ty := some .str } BT.leaf
def bt11 : BT := .node bt10 11 { kind := .sc, size := 1, bytes := 16, agg := false, zero := [.str []], cty := [none], ty := some .str } BT.leaf
def bt9 : BT := .node bt8 9 { kind := .sc, size := 1, bytes := 16, agg := false, zero := [.str []], cty := [none], ty := some .str } bt11
def bt6 : BT := .node bt3 6 { kind := .sc, size := 1, bytes := 1, agg := false, zero := [.int .u8 0], cty := [none], ty := some (.int .u8) } bt9
def bt13 : BT := .node BT.leaf 13 { kind := .struct [(0, 9), (1, 12)], size := 2, bytes := 24, agg := true, zero := [.str [], .int .u64 0], cty := [none, none], ty := some (.pair .str (.int .u64)) } BT.leaf
def bt14 : BT := .node bt13 14 { kind := .struct [(0, 9), (1, 12)], size := 2, bytes := 24, agg := true, zero := [.str [], .int .u64 0], cty := [none, none], ty := some (.pair .str (.int .u64)) } BT.leaf
def bt16 : BT := .node BT.leaf 16 { kind := .other, size := 1, bytes := 8, agg := false, zero := [.bot], cty := [none], ty := none } BT.leaf
def bt17 : BT := .node bt16 17 { kind := .other, size := 1, bytes := 8, agg := false, zero := [.bot], cty := [none], ty := none } BT.leaf
def bt15 : BT := .node bt14 15 { kind := .other, size := 1, bytes := 8, agg := false, zero := [.bot], cty := [none], ty := none } bt17
def bt19 : BT := .node BT.leaf 19 { kind := .struct [(0, 17)], size := 1, bytes := 8, agg := true, zero := [.bot], cty := [none], ty := none } BT.leaf
def bt21 : BT := .node bt19 21 { kind := .sc, size := 1, bytes := 4, agg := false, zero := [.int .i32 0], cty := [none], ty := some (.int .i32) } BT.leaf
def bt23 : BT := .node BT.leaf 23 { kind := .other, size := 1, bytes := 8, agg := false, zero := [.bot], cty := [none], ty := none } BT.leaf
def bt22 : BT := .node bt21 22 { kind := .other, size := 1, bytes := 8, agg := false, zero := [.bot], cty := [none], ty := none } bt23
def bt18 : BT := .node bt15 18 { kind := .struct [(0, 17)], size := 1, bytes := 8, agg := true, zero := [.bot], cty := [none], ty := none } bt22
def bt12 : BT := .node bt6 12 { kind := .sc, size := 1, bytes := 8, agg := false, zero := [.int .u64 0], cty := [none], ty := some (.int .u64) } bt18
def bt25 : BT := .node BT.leaf 25 { kind := .other, size := 1, bytes := 8, agg := false, zero := [.bot], cty := [none], ty := none } BT.leaf
def bt26 : BT := .node bt25 26 { kind := .other, size := 1, bytes := 8, agg := false, zero := [.bot], cty := [none], ty := none } BT.leaf
def bt28 : BT := .node BT.leaf 28 { kind := .other, size := 1, bytes := 8, agg := false, zero := [.bot], cty := [none], ty := none } BT.leaf
def bt29 : BT := .node bt28 29 { kind := .other, size := 1, bytes := 8, agg := false, zero := [.bot], cty := [none], ty := none } BT.leaf
def bt27 : BT := .node bt26 27 { kind := .slice 3, size := 1, bytes := 24, agg := false, zero := [.nil], cty := [some (3, (.int .i64))], ty := some (.list 3 (.int .i64)) } bt29
def bt31 : BT := .node BT.leaf 31 { kind := .slice 27, size := 1, bytes := 24, agg := false, zero := [.nil], cty := [some (27, (.list 3 (.int .i64)))], ty := some (.list 27 (.list 3 (.int .i64))) } BT.leaf
def bt32 : BT := .node bt31 32 { kind := .other, size := 1, bytes := 8, agg := false, zero := [.bot], cty := [none], ty := none } BT.leaf
def bt34 : BT := .node BT.leaf 34 { kind := .slice 97, size := 1, bytes := 24, agg := false, zero := [.nil], cty := [some (97, (.pair (.int .i64) (.pair (.int .i64) (.pair .str .str))))], ty := some (.list 97 (.pair (.int .i64) (.pair (.int .i64) (.pair .str .str)))) } BT.leaf
def bt33 : BT := .node bt32 33 { kind := .other, size := 1, bytes := 8, agg := false, zero := [.bot], cty := [none], ty := none } bt34
def bt30 : BT := .node bt27 30 { kind := .other, size := 1, bytes := 8, agg := false, zero := [.bot], cty := [none], ty := none } bt33
def bt36 : BT := .node BT.leaf 36 { kind := .struct [(0, 3), (1, 34)], size := 2, bytes := 32, agg := true, zero := [.int .i64 0, .nil], cty := [none, some (97, (.pair (.int .i64) (.pair (.int .i64) (.pair .str .str))))], ty := some (.pair (.int .i64) (.list 97 (.pair (.int .i64) (.pair (.int .i64) (.pair .str .str))))) } BT.leaf
def bt37 : BT := .node bt36 37 { kind := .slice 70, size := 1, bytes := 24, agg := false, zero := [.nil], cty := [some (70, (.pair .str (.pair (.int .i64) (.pair (.int .i64) (.int .i64)))))], ty := some (.list 70 (.pair .str (.pair (.int .i64) (.pair (.int .i64) (.int .i64))))) } BT.leaf
def bt39 : BT := .node BT.leaf 39 { kind := .slice 124, size := 1, bytes := 24, agg := false, zero := [.nil], cty := [some (124, (.pair (.int .i64) (.pair .str (.pair .str (.pair .str (.pair .str (.pair (.list 97 (.pair (.int .i64) (.pair (.int .i64) (.pair .str .str)))) (.list 148 (.pair .str (.list 97 (.pair (.int .i64) (.pair (.int .i64) (.pair .str .str)))))))))))))], ty := some (.list 124 (.pair (.int .i64) (.pair .str (.pair .str (.pair .str (.pair .str (.pair (.list 97 (.pair (.int .i64) (.pair (.int .i64) (.pair .str .str)))) (.list 148 (.pair .str (.list 97 (.pair (.int .i64) (.pair (.int .i64) (.pair .str .str))))))))))))) } BT.leaf
def bt40 : BT := .node bt39 40 { kind := .struct [(0, 37), (1, 38), (2, 39)], size := 3, bytes := 72, agg := true, zero := [.nil, .nil, .nil], cty := [some (70, (.pair .str (.pair (.int .i64) (.pair (.int .i64) (.int .i64))))), some (73, (.pair .str (.list 9 .str))), some (124, (.pair (.int .i64) (.pair .str (.pair .str (.pair .str (.pair .str (.pair (.list 97 (.pair (.int .i64) (.pair (.int .i64) (.pair .str .str)))) (.list 148 (.pair .str (.list 97 (.pair (.int .i64) (.pair (.int .i64) (.pair .str .str)))))))))))))], ty := some (.pair (.list 70 (.pair .str (.pair (.int .i64) (.pair (.int .i64) (.int .i64))))) (.pair (.list 73 (.pair .str (.list 9 .str))) (.list 124 (.pair (.int .i64) (.pair .str (.pair .str (.pair .str (.pair .str (.pair (.list 97 (.pair (.int .i64) (.pair (.int .i64) (.pair .str .str)))) (.list 148 (.pair .str (.list 97 (.pair (.int .i64) (.pair (.int .i64) (.pair .str .str))))))))))))))) } BT.leaf
def bt38 : BT := .node bt37 38 { kind := .slice 73, size := 1, bytes := 24, agg := false, zero := [.nil], cty := [some (73, (.pair .str (.list 9 .str)))], ty := some (.list 73 (.pair .str (.list 9 .str))) } bt40
def bt42 : BT := .node BT.leaf 42 { kind := .slice 77, size := 1, bytes := 24, agg := false, zero := [.nil], cty := [some (77, (.pair (.pair (.list 3 (.int .i64)) (.list 3 (.int .i64))) (.list 3 (.int .i64))))], ty := some (.list 77 (.pair (.pair (.list 3 (.int .i64)) (.list 3 (.int .i64))) (.list 3 (.int .i64)))) } BT.leaf
def bt43 : BT := .node bt42 43 { kind := .struct [(0, 42), (1, 42)], size := 2, bytes := 48, agg := true, zero := [.nil, .nil], cty := [some (77, (.pair (.pair (.list 3 (.int .i64)) (.list 3 (.int .i64))) (.list 3 (.int .i64)))), some (77, (.pair (.pair (.list 3 (.int .i64)) (.list 3 (.int .i64))) (.list 3 (.int .i64))))], ty := some (.pair (.list 77 (.pair (.pair (.list 3 (.int .i64)) (.list 3 (.int .i64))) (.list 3 (.int .i64)))) (.list 77 (.pair (.pair (.list 3 (.int .i64)) (.list 3 (.int .i64))) (.list 3 (.int .i64))))) } BT.leaf
def bt46 : BT := .node BT.leaf 46 { kind := .other, size := 1, bytes := 8, agg := false, zero := [.bot], cty := [none], ty := none } BT.leaf
def bt44 : BT := .node bt43 44 { kind := .struct [(0, 42), (1, 42)], size := 2, bytes := 48, agg := true, zero := [.nil, .nil], cty := [some (77, (.pair (.pair (.list 3 (.int .i64)) (.list 3 (.int .i64))) (.list 3 (.int .i64)))), some (77, (.pair (.pair (.list 3 (.int .i64)) (.list 3 (.int .i64))) (.list 3 (.int .i64))))], ty := some (.pair (.list 77 (.pair (.pair (.list 3 (.int .i64)) (.list 3 (.int .i64))) (.list 3 (.int .i64)))) (.list 77 (.pair (.pair (.list 3 (.int .i64)) (.list 3 (.int .i64))) (.list 3 (.int .i64))))) } bt46
def bt41 : BT := .node bt38 41 { kind := .struct [(0, 37), (1, 38), (2, 39)], size := 3, bytes := 72, agg := true, zero := [.nil, .nil, .nil], cty := [some (70, (.pair .str (.pair (.int .i64) (.pair (.int .i64) (.int .i64))))), some (73, (.pair .str (.list 9 .str))), some (124, (.pair (.int .i64) (.pair .str (.pair .str (.pair .str (.pair .str (.pair (.list 97 (.pair (.int .i64) (.pair (.int .i64) (.pair .str .str)))) (.list 148 (.pair .str (.list 97 (.pair (.int .i64) (.pair (.int .i64) (.pair .str .str)))))))))))))], ty := some (.pair (.list 70 (.pair .str (.pair (.int .i64) (.pair (.int .i64) (.int .i64))))) (.pair (.list 73 (.pair .str (.list 9 .str))) (.list 124 (.pair (.int .i64) (.pair .str (.pair .str (.pair .str (.pair .str (.pair (.list 97 (.pair (.int .i64) (.pair (.int .i64) (.pair .str .str)))) (.list 148 (.pair .str (.list 97 (.pair (.int .i64) (.pair (.int .i64) (.pair .str .str))))))))))))))) } bt44
def bt35 : BT := .node bt30 35 { kind := .struct [(0, 3), (1, 34)], size := 2, bytes := 32, agg := true, zero := [.int .i64 0, .nil], cty := [none, some (97, (.pair (.int .i64) (.pair (.int .i64) (.pair .str .str))))], ty := some (.pair (.int .i64) (.list 97 (.pair (.int .i64) (.pair (.int .i64) (.pair .str .str))))) } bt41
def bt24 : BT := .node bt12 24 { kind := .slice 36, size := 1, bytes := 24, agg := false, zero := [.nil], cty := [some (36, (.pair (.int .i64) (.list 97 (.pair (.int .i64) (.pair (.int .i64) (.pair .str .str))))))], ty := some (.list 36 (.pair (.int .i64) (.list 97 (.pair (.int .i64) (.pair (.int .i64) (.pair .str .str)))))) } bt35
def bt48 : BT := .node BT.leaf 48 { kind := .other, size := 1, bytes := 8, agg := false, zero := [.bot], cty := [none], ty := none } BT.leaf
def bt49 : BT := .node bt48 49 { kind := .slice 4, size := 1, bytes := 24, agg := false, zero := [.nil], cty := [some (4, .bool)], ty := some (.list 4 .bool) } BT.leaf
def bt51 : BT := .node BT.leaf 51 { kind := .other, size := 1, bytes := 8, agg := false, zero := [.bot], cty := [none], ty := none } BT.leaf
def bt52 : BT := .node bt51 52 { kind := .other, size := 1, bytes := 8, agg := false, zero := [.bot], cty := [none], ty := none } BT.leaf
def bt50 : BT := .node bt49 50 { kind := .other, size := 1, bytes := 8, agg := false, zero := [.bot], cty := [none], ty := none } bt52
def bt54 : BT := .node BT.leaf 54 { kind := .slice 24, size := 1, bytes := 24, agg := false, zero := [.nil], cty := [some (24, (.list 36 (.pair (.int .i64) (.list 97 (.pair (.int .i64) (.pair (.int .i64) (.pair .str .str)))))))], ty := some (.list 24 (.list 36 (.pair (.int .i64) (.list 97 (.pair (.int .i64) (.pair (.int .i64) (.pair .str .str))))))) } BT.leaf
def bt55 : BT := .node bt54 55 { kind := .other, size := 1, bytes := 8, agg := false, zero := [.bot], cty := [none], ty := none } BT.leaf
def bt57 : BT := .node BT.leaf 57 { kind := .other, size := 1, bytes := 8, agg := false, zero := [.bot], cty := [none], ty := none } BT.leaf
def bt56 : BT := .node bt55 56 { kind := .other, size := 1, bytes := 8, agg := false, zero := [.bot], cty := [none], ty := none } bt57
def bt53 : BT := .node bt50 53 { kind := .other, size := 1, bytes := 8, agg := false, zero := [.bot], cty := [none], ty := none } bt56
def bt60 : BT := .node BT.leaf 60 { kind := .other, size := 1, bytes := 8, agg := false, zero := [.bot], cty := [none], ty := none } BT.leaf
def bt61 : BT := .node bt60 61 { kind := .other, size := 1, bytes := 8, agg := false, zero := [.bot], cty := [none], ty := none } BT.leaf
def bt63 : BT := .node BT.leaf 63 { kind := .struct [(0, 27), (1, 3)], size := 2, bytes := 32, agg := true, zero := [.nil, .int .i64 0], cty := [some (3, (.int .i64)), none], ty := some (.pair (.list 3 (.int .i64)) (.int .i64)) } BT.leaf
def bt64 : BT := .node bt63 64 { kind := .other, size := 1, bytes := 8, agg := false, zero := [.bot], cty := [none], ty := none } BT.leaf
def bt62 : BT := .node bt61 62 { kind := .struct [(0, 27), (1, 3)], size := 2, bytes := 32, agg := true, zero := [.nil, .int .i64 0], cty := [some (3, (.int .i64)), none], ty := some (.pair (.list 3 (.int .i64)) (.int .i64)) } bt64
def bt66 : BT := .node BT.leaf 66 { kind := .other, size := 1, bytes := 8, agg := false, zero := [.bot], cty := [none], ty := none } BT.leaf
def bt67 : BT := .node bt66 67 { kind := .other, size := 1, bytes := 8, agg := false, zero := [.bot], cty := [none], ty := none } BT.leaf
def bt69 : BT := .node BT.leaf 69 { kind := .struct [(0, 9), (1, 3), (2, 3), (3, 3)], size := 4, bytes := 40, agg := true, zero := [.str [], .int .i64 0, .int .i64 0, .int .i64 0], cty := [none, none, none, none], ty := some (.pair .str (.pair (.int .i64) (.pair (.int .i64) (.int .i64)))) } BT.leaf
def bt68 : BT := .node bt67 68 { kind := .other, size := 1, bytes := 8, agg := false, zero := [.bot], cty := [none], ty := none } bt69
def bt65 : BT := .node bt62 65 { kind := .other, size := 1, bytes := 8, agg := false, zero := [.bot], cty := [none], ty := none } bt68
def bt58 : BT := .node bt53 58 { kind := .sc, size := 1, bytes := 8, agg := false, zero := [.int .i64 0], cty := [none], ty := some (.int .i64) } bt65
def bt71 : BT := .node BT.leaf 71 { kind := .slice 9, size := 1, bytes := 24, agg := false, zero := [.nil], cty := [some (9, .str)], ty := some (.list 9 .str) } BT.leaf
def bt72 : BT := .node bt71 72 { kind := .struct [(0, 9), (1, 71)], size := 2, bytes := 40, agg := true, zero := [.str [], .nil], cty := [none, some (9, .str)], ty := some (.pair .str (.list 9 .str)) } BT.leaf
def bt74 : BT := .node BT.leaf 74 { kind := .struct [(0, 27), (1, 27)], size := 2, bytes := 48, agg := true, zero := [.nil, .nil], cty := [some (3, (.int .i64)), some (3, (.int .i64))], ty := some (.pair (.list 3 (.int .i64)) (.list 3 (.int .i64))) } BT.leaf
def bt75 : BT := .node bt74 75 { kind := .struct [(0, 27), (1, 27)], size := 2, bytes := 48, agg := true, zero := [.nil, .nil], cty := [some (3, (.int .i64)), some (3, (.int .i64))], ty := some (.pair (.list 3 (.int .i64)) (.list 3 (.int .i64))) } BT.leaf
def bt73 : BT := .node bt72 73 { kind := .struct [(0, 9), (1, 71)], size := 2, bytes := 40, agg := true, zero := [.str [], .nil], cty := [none, some (9, .str)], ty := some (.pair .str (.list 9 .str)) } bt75
def bt77 : BT := .node BT.leaf 77 { kind := .struct [(0, 75), (2, 27)], size := 3, bytes := 72, agg := true, zero := [.nil, .nil, .nil], cty := [some (3, (.int .i64)), some (3, (.int .i64)), some (3, (.int .i64))], ty := some (.pair (.pair (.list 3 (.int .i64)) (.list 3 (.int .i64))) (.list 3 (.int .i64))) } BT.leaf
def bt78 : BT := .node bt77 78 { kind := .other, size := 1, bytes := 8, agg := false, zero := [.bot], cty := [none], ty := none } BT.leaf
def bt80 : BT := .node BT.leaf 80 { kind := .struct [(0, 41), (3, 42), (4, 3)], size := 5, bytes := 104, agg := true, zero := [.nil, .nil, .nil, .nil, .int .i64 0], cty := [some (70, (.pair .str (.pair (.int .i64) (.pair (.int .i64) (.int .i64))))), some (73, (.pair .str (.list 9 .str))), some (124, (.pair (.int .i64) (.pair .str (.pair .str (.pair .str (.pair .str (.pair (.list 97 (.pair (.int .i64) (.pair (.int .i64) (.pair .str .str)))) (.list 148 (.pair .str (.list 97 (.pair (.int .i64) (.pair (.int .i64) (.pair .str .str))))))))))))), some (77, (.pair (.pair (.list 3 (.int .i64)) (.list 3 (.int .i64))) (.list 3 (.int .i64)))), none], ty := some (.pair (.pair (.list 70 (.pair .str (.pair (.int .i64) (.pair (.int .i64) (.int .i64))))) (.pair (.list 73 (.pair .str (.list 9 .str))) (.list 124 (.pair (.int .i64) (.pair .str (.pair .str (.pair .str (.pair .str (.pair (.list 97 (.pair (.int .i64) (.pair (.int .i64) (.pair .str .str)))) (.list 148 (.pair .str (.list 97 (.pair (.int .i64) (.pair (.int .i64) (.pair .str .str))))))))))))))) (.pair (.list 77 (.pair (.pair (.list 3 (.int .i64)) (.list 3 (.int .i64))) (.list 3 (.int .i64)))) (.int .i64))) } BT.leaf
def bt79 : BT := .node bt78 79 { kind := .other, size := 1, bytes := 8, agg := false, zero := [.bot], cty := [none], ty := none } bt80
def bt76 : BT := .node bt73 76 { kind := .struct [(0, 75), (2, 27)], size := 3, bytes := 72, agg := true, zero := [.nil, .nil, .nil], cty := [some (3, (.int .i64)), some (3, (.int .i64)), some (3, (.int .i64))], ty := some (.pair (.pair (.list 3 (.int .i64)) (.list 3 (.int .i64))) (.list 3 (.int .i64))) } bt79
def bt82 : BT := .node BT.leaf 82 { kind := .other, size := 1, bytes := 8, agg := false, zero := [.bot], cty := [none], ty := none } BT.leaf
def bt83 : BT := .node bt82 83 { kind := .other, size := 1, bytes := 8, agg := false, zero := [.bot], cty := [none], ty := none } BT.leaf
def bt85 : BT := .node BT.leaf 85 { kind := .other, size := 1, bytes := 8, agg := false, zero := [.bot], cty := [none], ty := none } BT.leaf
def bt86 : BT := .node bt85 86 { kind := .other, size := 1, bytes := 8, agg := false, zero := [.bot], cty := [none], ty := none } BT.leaf
def bt84 : BT := .node bt83 84 { kind := .other, size := 1, bytes := 8, agg := false, zero := [.bot], cty := [none], ty := none } bt86
def bt88 : BT := .node BT.leaf 88 { kind := .struct [(0, 9), (1, 3)], size := 2, bytes := 24, agg := true, zero := [.str [], .int .i64 0], cty := [none, none], ty := some (.pair .str (.int .i64)) } BT.leaf
def bt89 : BT := .node bt88 89 { kind := .struct [(0, 9), (1, 3)], size := 2, bytes := 24, agg := true, zero := [.str [], .int .i64 0], cty := [none, none], ty := some (.pair .str (.int .i64)), eqf := true } BT.leaf
def bt91 : BT := .node BT.leaf 91 { kind := .other, size := 1, bytes := 8, agg := false, zero := [.bot], cty := [none], ty := none } BT.leaf
def bt90 : BT := .node bt89 90 { kind := .other, size := 1, bytes := 8, agg := false, zero := [.bot], cty := [none], ty := none } bt91
def bt87 : BT := .node bt84 87 { kind := .slice 89, size := 1, bytes := 24, agg := false, zero := [.nil], cty := [some (89, (.pair .str (.int .i64)))], ty := some (.list 89 (.pair .str (.int .i64))) } bt90
def bt81 : BT := .node bt76 81 { kind := .struct [(0, 41), (3, 42), (4, 3)], size := 5, bytes := 104, agg := true, zero := [.nil, .nil, .nil, .nil, .int .i64 0], cty := [some (70, (.pair .str (.pair (.int .i64) (.pair (.int .i64) (.int .i64))))), some (73, (.pair .str (.list 9 .str))), some (124, (.pair (.int .i64) (.pair .str (.pair .str (.pair .str (.pair .str (.pair (.list 97 (.pair (.int .i64) (.pair (.int .i64) (.pair .str .str)))) (.list 148 (.pair .str (.list 97 (.pair (.int .i64) (.pair (.int .i64) (.pair .str .str))))))))))))), some (77, (.pair (.pair (.list 3 (.int .i64)) (.list 3 (.int .i64))) (.list 3 (.int .i64)))), none], ty := some (.pair (.pair (.list 70 (.pair .str (.pair (.int .i64) (.pair (.int .i64) (.int .i64))))) (.pair (.list 73 (.pair .str (.list 9 .str))) (.list 124 (.pair (.int .i64) (.pair .str (.pair .str (.pair .str (.pair .str (.pair (.list 97 (.pair (.int .i64) (.pair (.int .i64) (.pair .str .str)))) (.list 148 (.pair .str (.list 97 (.pair (.int .i64) (.pair (.int .i64) (.pair .str .str))))))))))))))) (.pair (.list 77 (.pair (.pair (.list 3 (.int .i64)) (.list 3 (.int .i64))) (.list 3 (.int .i64)))) (.int .i64))) } bt87
def bt70 : BT := .node bt58 70 { kind := .struct [(0, 9), (1, 3), (2, 3), (3, 3)], size := 4, bytes := 40, agg := true, zero := [.str [], .int .i64 0, .int .i64 0, .int .i64 0], cty := [none, none, none, none], ty := some (.pair .str (.pair (.int .i64) (.pair (.int .i64) (.int .i64)))), eqf := true } bt81
def bt47 : BT := .node bt24 47 { kind := .slice 49, size := 1, bytes := 24, agg := false, zero := [.nil], cty := [some (49, (.list 4 .bool))], ty := some (.list 49 (.list 4 .bool)) } bt70
def bt93 : BT := .node BT.leaf 93 { kind := .other, size := 1, bytes := 8, agg := false, zero := [.bot], cty := [none], ty := none } BT.leaf
def bt94 : BT := .node bt93 94 { kind := .other, size := 1, bytes := 8, agg := false, zero := [.bot], cty := [none], ty := none } BT.leaf
def bt96 : BT := .node BT.leaf 96 { kind := .struct [(0, 3), (1, 3), (2, 9), (3, 9)], size := 4, bytes := 48, agg := true, zero := [.int .i64 0, .int .i64 0, .str [], .str []], cty := [none, none, none, none], ty := some (.pair (.int .i64) (.pair (.int .i64) (.pair .str .str))) } BT.leaf
def bt97 : BT := .node bt96 97 { kind := .struct [(0, 3), (1, 3), (2, 9), (3, 9)], size := 4, bytes := 48, agg := true, zero := [.int .i64 0, .int .i64 0, .str [], .str []], cty := [none, none, none, none], ty := some (.pair (.int .i64) (.pair (.int .i64) (.pair .str .str))), eqf := true } BT.leaf
def bt95 : BT := .node bt94 95 { kind := .other, size := 1, bytes := 8, agg := false, zero := [.bot], cty := [none], ty := none } bt97
def bt100 : BT := .node BT.leaf 100 { kind := .other, size := 1, bytes := 8, agg := false, zero := [.bot], cty := [none], ty := none } BT.leaf
def bt101 : BT := .node bt100 101 { kind := .other, size := 1, bytes := 8, agg := false, zero := [.bot], cty := [none], ty := none } BT.leaf
def bt103 : BT := .node BT.leaf 103 { kind := .struct [(0, 98), (1, 3), (2, 24), (3, 58), (4, 3)], size := 5, bytes := 72, agg := true, zero := [.nil, .int .i64 0, .nil, .int .i64 0, .int .i64 0], cty := [some (106, (.pair (.int .i64) (.pair .str (.pair (.int .i64) (.int .i64))))), none, some (36, (.pair (.int .i64) (.list 97 (.pair (.int .i64) (.pair (.int .i64) (.pair .str .str)))))), none, none], ty := some (.pair (.list 106 (.pair (.int .i64) (.pair .str (.pair (.int .i64) (.int .i64))))) (.pair (.int .i64) (.pair (.list 36 (.pair (.int .i64) (.list 97 (.pair (.int .i64) (.pair (.int .i64) (.pair .str .str)))))) (.pair (.int .i64) (.int .i64))))) } BT.leaf
def bt104 : BT := .node bt103 104 { kind := .other, size := 1, bytes := 8, agg := false, zero := [.bot], cty := [none], ty := none } BT.leaf
def bt102 : BT := .node bt101 102 { kind := .struct [(0, 98), (1, 3), (2, 24), (3, 58), (4, 3)], size := 5, bytes := 72, agg := true, zero := [.nil, .int .i64 0, .nil, .int .i64 0, .int .i64 0], cty := [some (106, (.pair (.int .i64) (.pair .str (.pair (.int .i64) (.int .i64))))), none, some (36, (.pair (.int .i64) (.list 97 (.pair (.int .i64) (.pair (.int .i64) (.pair .str .str)))))), none, none], ty := some (.pair (.list 106 (.pair (.int .i64) (.pair .str (.pair (.int .i64) (.int .i64))))) (.pair (.int .i64) (.pair (.list 36 (.pair (.int .i64) (.list 97 (.pair (.int .i64) (.pair (.int .i64) (.pair .str .str)))))) (.pair (.int .i64) (.int .i64))))) } bt104
def bt98 : BT := .node bt95 98 { kind := .slice 106, size := 1, bytes := 24, agg := false, zero := [.nil], cty := [some (106, (.pair (.int .i64) (.pair .str (.pair (.int .i64) (.int .i64)))))], ty := some (.list 106 (.pair (.int .i64) (.pair .str (.pair (.int .i64) (.int .i64))))) } bt102
def bt106 : BT := .node BT.leaf 106 { kind := .struct [(0, 3), (1, 9), (2, 3), (3, 3)], size := 4, bytes := 40, agg := true, zero := [.int .i64 0, .str [], .int .i64 0, .int .i64 0], cty := [none, none, none, none], ty := some (.pair (.int .i64) (.pair .str (.pair (.int .i64) (.int .i64)))), eqf := true } BT.leaf
def bt107 : BT := .node bt106 107 { kind := .other, size := 1, bytes := 8, agg := false, zero := [.bot], cty := [none], ty := none } BT.leaf
def bt109 : BT := .node BT.leaf 109 { kind := .array 3 9, size := 3, bytes := 48, agg := true, zero := [.str [], .str [], .str []], cty := [none, none, none], ty := none } BT.leaf
def bt110 : BT := .node bt109 110 { kind := .array 6 9, size := 6, bytes := 96, agg := true, zero := [.str [], .str [], .str [], .str [], .str [], .str []], cty := [none, none, none, none, none, none], ty := none } BT.leaf
def bt108 : BT := .node bt107 108 { kind := .array 2 9, size := 2, bytes := 32, agg := true, zero := [.str [], .str []], cty := [none, none], ty := none } bt110
def bt112 : BT := .node BT.leaf 112 { kind := .other, size := 1, bytes := 8, agg := false, zero := [.bot], cty := [none], ty := none } BT.leaf
def bt113 : BT := .node bt112 113 { kind := .other, size := 1, bytes := 8, agg := false, zero := [.bot], cty := [none], ty := none } BT.leaf
def bt115 : BT := .node BT.leaf 115 { kind := .other, size := 1, bytes := 8, agg := false, zero := [.bot], cty := [none], ty := none } BT.leaf
def bt114 : BT := .node bt113 114 { kind := .other, size := 1, bytes := 8, agg := false, zero := [.bot], cty := [none], ty := none } bt115
def bt111 : BT := .node bt108 111 { kind := .other, size := 1, bytes := 8, agg := false, zero := [.bot], cty := [none], ty := none } bt114
def bt105 : BT := .node bt98 105 { kind := .struct [(0, 3), (1, 9), (2, 3), (3, 3)], size := 4, bytes := 40, agg := true, zero := [.int .i64 0, .str [], .int .i64 0, .int .i64 0], cty := [none, none, none, none], ty := some (.pair (.int .i64) (.pair .str (.pair (.int .i64) (.int .i64)))) } bt111
def bt117 : BT := .node BT.leaf 117 { kind := .other, size := 1, bytes := 8, agg := false, zero := [.bot], cty := [none], ty := none } BT.leaf
def bt118 : BT := .node bt117 118 { kind := .other, size := 1, bytes := 8, agg := false, zero := [.bot], cty := [none], ty := none } BT.leaf
def bt120 : BT := .node BT.leaf 120 { kind := .other, size := 1, bytes := 8, agg := false, zero := [.bot], cty := [none], ty := none } BT.leaf
def bt121 : BT := .node bt120 121 { kind := .other, size := 1, bytes := 8, agg := false, zero := [.bot], cty := [none], ty := none } BT.leaf
def bt119 : BT := .node bt118 119 { kind := .other, size := 1, bytes := 8, agg := false, zero := [.bot], cty := [none], ty := none } bt121
def bt123 : BT := .node BT.leaf 123 { kind := .struct [(0, 3), (1, 9), (2, 9), (3, 9), (4, 9), (5, 34), (6, 122)], size := 7, bytes := 120, agg := true, zero := [.int .i64 0, .str [], .str [], .str [], .str [], .nil, .nil], cty := [none, none, none, none, none, some (97, (.pair (.int .i64) (.pair (.int .i64) (.pair .str .str)))), some (148, (.pair .str (.list 97 (.pair (.int .i64) (.pair (.int .i64) (.pair .str .str))))))], ty := some (.pair (.int .i64) (.pair .str (.pair .str (.pair .str (.pair .str (.pair (.list 97 (.pair (.int .i64) (.pair (.int .i64) (.pair .str .str)))) (.list 148 (.pair .str (.list 97 (.pair (.int .i64) (.pair (.int .i64) (.pair .str .str)))))))))))) } BT.leaf
def bt124 : BT := .node bt123 124 { kind := .struct [(0, 3), (1, 9), (2, 9), (3, 9), (4, 9), (5, 34), (6, 122)], size := 7, bytes := 120, agg := true, zero := [.int .i64 0, .str [], .str [], .str [], .str [], .nil, .nil], cty := [none, none, none, none, none, some (97, (.pair (.int .i64) (.pair (.int .i64) (.pair .str .str)))), some (148, (.pair .str (.list 97 (.pair (.int .i64) (.pair (.int .i64) (.pair .str .str))))))], ty := some (.pair (.int .i64) (.pair .str (.pair .str (.pair .str (.pair .str (.pair (.list 97 (.pair (.int .i64) (.pair (.int .i64) (.pair .str .str)))) (.list 148 (.pair .str (.list 97 (.pair (.int .i64) (.pair (.int .i64) (.pair .str .str)))))))))))) } BT.leaf
def bt126 : BT := .node BT.leaf 126 { kind := .other, size := 1, bytes := 8, agg := false, zero := [.bot], cty := [none], ty := none } BT.leaf
def bt125 : BT := .node bt124 125 { kind := .other, size := 1, bytes := 8, agg := false, zero := [.bot], cty := [none], ty := none } bt126
def bt122 : BT := .node bt119 122 { kind := .slice 148, size := 1, bytes := 24, agg := false, zero := [.nil], cty := [some (148, (.pair .str (.list 97 (.pair (.int .i64) (.pair (.int .i64) (.pair .str .str))))))], ty := some (.list 148 (.pair .str (.list 97 (.pair (.int .i64) (.pair (.int .i64) (.pair .str .str)))))) } bt125
def bt128 : BT := .node BT.leaf 128 { kind := .array 17 9, size := 17, bytes := 272, agg := true, zero := [.str [], .str [], .str [], .str [], .str [], .str [], .str [], .str [], .str [], .str [], .str [], .str [], .str [], .str [], .str [], .str [], .str []], cty := [none, none, none, none, none, none, none, none, none, none, none, none, none, none, none, none, none], ty := none } BT.leaf
def bt129 : BT := .node bt128 129 { kind := .struct [(0, 9), (1, 3)], size := 2, bytes := 24, agg := true, zero := [.str [], .int .i64 0], cty := [none, none], ty := some (.pair .str (.int .i64)) } BT.leaf
def bt131 : BT := .node BT.leaf 131 { kind := .other, size := 1, bytes := 8, agg := false, zero := [.bot], cty := [none], ty := none } BT.leaf
def bt132 : BT := .node bt131 132 { kind := .other, size := 1, bytes := 8, agg := false, zero := [.bot], cty := [none], ty := none } BT.leaf
def bt130 : BT := .node bt129 130 { kind := .struct [(0, 9), (1, 3)], size := 2, bytes := 24, agg := true, zero := [.str [], .int .i64 0], cty := [none, none], ty := some (.pair .str (.int .i64)), eqf := true } bt132
def bt134 : BT := .node BT.leaf 134 { kind := .other, size := 1, bytes := 8, agg := false, zero := [.bot], cty := [none], ty := none } BT.leaf
def bt135 : BT := .node bt134 135 { kind := .other, size := 1, bytes := 8, agg := false, zero := [.bot], cty := [none], ty := none } BT.leaf
def bt137 : BT := .node BT.leaf 137 { kind := .other, size := 1, bytes := 8, agg := false, zero := [.bot], cty := [none], ty := none } BT.leaf
def bt136 : BT := .node bt135 136 { kind := .other, size := 1, bytes := 8, agg := false, zero := [.bot], cty := [none], ty := none } bt137
def bt133 : BT := .node bt130 133 { kind := .other, size := 1, bytes := 8, agg := false, zero := [.bot], cty := [none], ty := none } bt136
def bt127 : BT := .node bt122 127 { kind := .slice 130, size := 1, bytes := 24, agg := false, zero := [.nil], cty := [some (130, (.pair .str (.int .i64)))], ty := some (.list 130 (.pair .str (.int .i64))) } bt133
def bt116 : BT := .node bt105 116 { kind := .slice 42, size := 1, bytes := 24, agg := false, zero := [.nil], cty := [some (42, (.list 77 (.pair (.pair (.list 3 (.int .i64)) (.list 3 (.int .i64))) (.list 3 (.int .i64)))))], ty := some (.list 42 (.list 77 (.pair (.pair (.list 3 (.int .i64)) (.list 3 (.int .i64))) (.list 3 (.int .i64))))) } bt127
def bt139 : BT := .node BT.leaf 139 { kind := .other, size := 1, bytes := 8, agg := false, zero := [.bot], cty := [none], ty := none } BT.leaf
def bt140 : BT := .node bt139 140 { kind := .other, size := 1, bytes := 8, agg := false, zero := [.bot], cty := [none], ty := none } BT.leaf
def bt142 : BT := .node BT.leaf 142 { kind := .other, size := 1, bytes := 8, agg := false, zero := [.bot], cty := [none], ty := none } BT.leaf
def bt144 : BT := .node bt142 144 { kind := .other, size := 1, bytes := 8, agg := false, zero := [.bot], cty := [none], ty := none } BT.leaf
def bt141 : BT := .node bt140 141 { kind := .other, size := 1, bytes := 8, agg := false, zero := [.bot], cty := [none], ty := none } bt144
def bt146 : BT := .node BT.leaf 146 { kind := .other, size := 1, bytes := 8, agg := false, zero := [.bot], cty := [none], ty := none } BT.leaf
def bt147 : BT := .node bt146 147 { kind := .struct [(0, 9), (1, 34)], size := 2, bytes := 40, agg := true, zero := [.str [], .nil], cty := [none, some (97, (.pair (.int .i64) (.pair (.int .i64) (.pair .str .str))))], ty := some (.pair .str (.list 97 (.pair (.int .i64) (.pair (.int .i64) (.pair .str .str))))) } BT.leaf
def bt149 : BT := .node BT.leaf 149 { kind := .other, size := 1, bytes := 8, agg := false, zero := [.bot], cty := [none], ty := none } BT.leaf
def bt148 : BT := .node bt147 148 { kind := .struct [(0, 9), (1, 34)], size := 2, bytes := 40, agg := true, zero := [.str [], .nil], cty := [none, some (97, (.pair (.int .i64) (.pair (.int .i64) (.pair .str .str))))], ty := some (.pair .str (.list 97 (.pair (.int .i64) (.pair (.int .i64) (.pair .str .str))))) } bt149
def bt145 : BT := .node bt141 145 { kind := .other, size := 1, bytes := 8, agg := false, zero := [.bot], cty := [none], ty := none } bt148
def bt151 : BT := .node BT.leaf 151 { kind := .other, size := 1, bytes := 8, agg := false, zero := [.bot], cty := [none], ty := none } BT.leaf
def bt152 : BT := .node bt151 152 { kind := .other, size := 1, bytes := 8, agg := false, zero := [.bot], cty := [none], ty := none } BT.leaf
def bt154 : BT := .node BT.leaf 154 { kind := .sc, size := 1, bytes := 8, agg := false, zero := [.int .u64 0], cty := [none], ty := some (.int .u64) } BT.leaf
def bt155 : BT := .node bt154 155 { kind := .other, size := 1, bytes := 8, agg := false, zero := [.bot], cty := [none], ty := none } BT.leaf
def bt153 : BT := .node bt152 153 { kind := .other, size := 1, bytes := 8, agg := false, zero := [.bot], cty := [none], ty := none } bt155
def bt157 : BT := .node BT.leaf 157 { kind := .other, size := 1, bytes := 8, agg := false, zero := [.bot], cty := [none], ty := none } BT.leaf
def bt159 : BT := .node bt157 159 { kind := .other, size := 1, bytes := 8, agg := false, zero := [.bot], cty := [none], ty := none } BT.leaf
def bt161 : BT := .node BT.leaf 161 { kind := .other, size := 1, bytes := 8, agg := false, zero := [.bot], cty := [none], ty := none } BT.leaf
def bt160 : BT := .node bt159 160 { kind := .other, size := 1, bytes := 8, agg := false, zero := [.bot], cty := [none], ty := none } bt161
def bt156 : BT := .node bt153 156 { kind := .array 9 9, size := 9, bytes := 144, agg := true, zero := [.str [], .str [], .str [], .str [], .str [], .str [], .str [], .str [], .str []], cty := [none, none, none, none, none, none, none, none, none], ty := none } bt160
def bt150 : BT := .node bt145 150 { kind := .other, size := 1, bytes := 8, agg := false, zero := [.bot], cty := [none], ty := none } bt156
def bt163 : BT := .node BT.leaf 163 { kind := .other, size := 1, bytes := 8, agg := false, zero := [.bot], cty := [none], ty := none } BT.leaf
def bt164 : BT := .node bt163 164 { kind := .other, size := 1, bytes := 8, agg := false, zero := [.bot], cty := [none], ty := none } BT.leaf
def bt167 : BT := .node BT.leaf 167 { kind := .other, size := 1, bytes := 8, agg := false, zero := [.bot], cty := [none], ty := none } BT.leaf
def bt168 : BT := .node bt167 168 { kind := .struct [(0, 98), (1, 3), (2, 34), (3, 3)], size := 4, bytes := 64, agg := true, zero := [.nil, .int .i64 0, .nil, .int .i64 0], cty := [some (106, (.pair (.int .i64) (.pair .str (.pair (.int .i64) (.int .i64))))), none, some (97, (.pair (.int .i64) (.pair (.int .i64) (.pair .str .str)))), none], ty := some (.pair (.list 106 (.pair (.int .i64) (.pair .str (.pair (.int .i64) (.int .i64))))) (.pair (.int .i64) (.pair (.list 97 (.pair (.int .i64) (.pair (.int .i64) (.pair .str .str)))) (.int .i64)))) } BT.leaf
def bt165 : BT := .node bt164 165 { kind := .other, size := 1, bytes := 8, agg := false, zero := [.bot], cty := [none], ty := none } bt168
def bt170 : BT := .node BT.leaf 170 { kind := .other, size := 1, bytes := 8, agg := false, zero := [.bot], cty := [none], ty := none } BT.leaf
def bt171 : BT := .node bt170 171 { kind := .other, size := 1, bytes := 8, agg := false, zero := [.bot], cty := [none], ty := none } BT.leaf
def bt173 : BT := .node BT.leaf 173 { kind := .struct [(0, 17), (1, 17), (2, 17), (3, 9)], size := 4, bytes := 40, agg := true, zero := [.bot, .bot, .bot, .str []], cty := [none, none, none, none], ty := none } BT.leaf
def bt172 : BT := .node bt171 172 { kind := .other, size := 1, bytes := 8, agg := false, zero := [.bot], cty := [none], ty := none } bt173
def bt169 : BT := .node bt165 169 { kind := .struct [(0, 98), (1, 3), (2, 34), (3, 3)], size := 4, bytes := 64, agg := true, zero := [.nil, .int .i64 0, .nil, .int .i64 0], cty := [some (106, (.pair (.int .i64) (.pair .str (.pair (.int .i64) (.int .i64))))), none, some (97, (.pair (.int .i64) (.pair (.int .i64) (.pair .str .str)))), none], ty := some (.pair (.list 106 (.pair (.int .i64) (.pair .str (.pair (.int .i64) (.int .i64))))) (.pair (.int .i64) (.pair (.list 97 (.pair (.int .i64) (.pair (.int .i64) (.pair .str .str)))) (.int .i64)))) } bt172
def bt178 : BT := .node BT.leaf 178 { kind := .other, size := 1, bytes := 8, agg := false, zero := [.bot], cty := [none], ty := none } BT.leaf
def bt179 : BT := .node bt178 179 { kind := .sc, size := 1, bytes := 4, agg := false, zero := [.int .u32 0], cty := [none], ty := some (.int .u32) } BT.leaf
def bt181 : BT := .node BT.leaf 181 { kind := .sc, size := 1, bytes := 1, agg := false, zero := [.int .u8 0], cty := [none], ty := some (.int .u8) } BT.leaf
def bt182 : BT := .node bt181 182 { kind := .other, size := 1, bytes := 8, agg := false, zero := [.bot], cty := [none], ty := none } BT.leaf
def bt180 : BT := .node bt179 180 { kind := .sc, size := 1, bytes := 1, agg := false, zero := [.int .u8 0], cty := [none], ty := some (.int .u8) } bt182
def bt184 : BT := .node BT.leaf 184 { kind := .sc, size := 1, bytes := 4, agg := false, zero := [.int .i32 0], cty := [none], ty := some (.int .i32) } BT.leaf
def bt185 : BT := .node bt184 185 { kind := .sc, size := 1, bytes := 4, agg := false, zero := [.int .i32 0], cty := [none], ty := some (.int .i32) } BT.leaf
def bt187 : BT := .node BT.leaf 187 { kind := .struct [(0, 12), (1, 12), (2, 179), (3, 180), (4, 5), (5, 5), (6, 181), (7, 182), (8, 183), (9, 184), (10, 185)], size := 11, bytes := 48, agg := true, zero := [.int .u64 0, .int .u64 0, .int .u32 0, .int .u8 0, .int .u8 0, .int .u8 0, .int .u8 0, .bot, .bot, .int .i32 0, .int .i32 0], cty := [none, none, none, none, none, none, none, none, none, none, none], ty := none } BT.leaf
def bt186 : BT := .node bt185 186 { kind := .struct [(0, 12), (1, 12), (2, 179), (3, 180), (4, 5), (5, 5), (6, 181), (7, 182), (8, 183), (9, 184), (10, 185)], size := 11, bytes := 48, agg := true, zero := [.int .u64 0, .int .u64 0, .int .u32 0, .int .u8 0, .int .u8 0, .int .u8 0, .int .u8 0, .bot, .bot, .int .i32 0, .int .i32 0], cty := [none, none, none, none, none, none, none, none, none, none, none], ty := none } bt187
def bt183 : BT := .node bt180 183 { kind := .other, size := 1, bytes := 8, agg := false, zero := [.bot], cty := [none], ty := none } bt186
def bt174 : BT := .node bt169 174 { kind := .struct [(0, 17), (1, 17), (2, 17), (3, 9)], size := 4, bytes := 40, agg := true, zero := [.bot, .bot, .bot, .str []], cty := [none, none, none, none], ty := none } bt183
def bt162 : BT := .node bt150 162 { kind := .other, size := 1, bytes := 8, agg := false, zero := [.bot], cty := [none], ty := none } bt174
def bt138 : BT := .node bt116 138 { kind := .other, size := 1, bytes := 8, agg := false, zero := [.bot], cty := [none], ty := none } bt162
def bt92 : BT := .node bt47 92 { kind := .other, size := 1, bytes := 8, agg := false, zero := [.bot], cty := [none], ty := none } bt138
def tab : BT := bt92
def tau : Nat → Option TI := tab.get
end Go.Proofs.Ytccnmhdgghjgoaa.Av
