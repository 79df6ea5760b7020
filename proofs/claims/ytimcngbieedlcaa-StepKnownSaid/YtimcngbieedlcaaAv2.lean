/- The table of the seat's types,for the abstract evaluator. Conditions: none. -/
import Derived.Test.YtimcngbieedlcaaAv1
set_option linter.unusedSimpArgs false
set_option linter.unusedVariables false
namespace Go.Proofs.Ytimcngbieedlcaa.Av
open Go
def owL:List (Nat×Nat):=[]
def glL:List (Nat×List CV):=[]
abbrev ty3:Ty:=(.int .i64)
abbrev ty9:Ty:=.str
abbrev ty25:Ty:=(.list 43 (.pair (.int .i64) (.pair .str (.pair .str (.pair .str (.pair .str (.pair (.list 95 (.pair (.int .i64) (.pair (.int .i64) (.pair .str .str)))) (.list 73 (.pair .str (.list 95 (.pair (.int .i64) (.pair (.int .i64) (.pair .str .str)))))))))))))
abbrev ty36:Ty:=(.pair (.list 3 (.int .i64)) (.pair (.list 3 (.int .i64)) (.list 3 (.int .i64))))
abbrev ty43:Ty:=(.pair (.int .i64) (.pair .str (.pair .str (.pair .str (.pair .str (.pair (.list 95 (.pair (.int .i64) (.pair (.int .i64) (.pair .str .str)))) (.list 73 (.pair .str (.list 95 (.pair (.int .i64) (.pair (.int .i64) (.pair .str .str))))))))))))
abbrev ty62:Ty:=(.pair .str (.pair (.int .i64) (.pair (.int .i64) (.int .i64))))
abbrev ty66:Ty:=(.pair .str (.list 9 .str))
abbrev ty73:Ty:=(.pair .str (.list 95 (.pair (.int .i64) (.pair (.int .i64) (.pair .str .str)))))
abbrev ty95:Ty:=(.pair (.int .i64) (.pair (.int .i64) (.pair .str .str)))
abbrev ty111:Ty:=(.pair (.int .i64) (.pair .str (.pair (.int .i64) (.int .i64))))
abbrev ty131:Ty:=(.pair .str (.int .i64))
def bt3:BT:=.node BT.leaf 3 { kind:=.sc,size:=1,bytes:=8,agg:=false,zero:=[.int .i64 0],cty:=[none],ty:=some (.int .i64) } BT.leaf
def bt4:BT:=.node bt3 4 { kind:=.sc,size:=1,bytes:=1,agg:=false,zero:=[.bool false],cty:=[none],ty:=some .bool } BT.leaf
def bt9:BT:=.node BT.leaf 9 { kind:=.sc,size:=1,bytes:=16,agg:=false,zero:=[.str []],cty:=[none],ty:=some .str } BT.leaf
def bt5:BT:=.node bt4 5 { kind:=.sc,size:=1,bytes:=1,agg:=false,zero:=[.int .u8 0],cty:=[none],ty:=some (.int .u8) } bt9
def bt24:BT:=.node BT.leaf 24 { kind:=.slice 66,size:=1,bytes:=24,agg:=false,zero:=[.nil],cty:=[some (66,(.pair .str (.list 9 .str)))],ty:=some (.list 66 (.pair .str (.list 9 .str))) } BT.leaf
def bt27:BT:=.node BT.leaf 27 { kind:=.struct [(0,23),(1,24),(2,25)],size:=3,bytes:=72,agg:=true,zero:=[.nil,.nil,.nil],cty:=[some (62,(.pair .str (.pair (.int .i64) (.pair (.int .i64) (.int .i64))))),some (66,(.pair .str (.list 9 .str))),some (43,(.pair (.int .i64) (.pair .str (.pair .str (.pair .str (.pair .str (.pair (.list 95 (.pair (.int .i64) (.pair (.int .i64) (.pair .str .str)))) (.list 73 (.pair .str (.list 95 (.pair (.int .i64) (.pair (.int .i64) (.pair .str .str)))))))))))))],ty:=some (.pair (.list 62 (.pair .str (.pair (.int .i64) (.pair (.int .i64) (.int .i64))))) (.pair (.list 66 (.pair .str (.list 9 .str))) (.list 43 (.pair (.int .i64) (.pair .str (.pair .str (.pair .str (.pair .str (.pair (.list 95 (.pair (.int .i64) (.pair (.int .i64) (.pair .str .str)))) (.list 73 (.pair .str (.list 95 (.pair (.int .i64) (.pair (.int .i64) (.pair .str .str))))))))))))))) } BT.leaf
def bt25:BT:=.node bt24 25 { kind:=.slice 43,size:=1,bytes:=24,agg:=false,zero:=[.nil],cty:=[some (43,(.pair (.int .i64) (.pair .str (.pair .str (.pair .str (.pair .str (.pair (.list 95 (.pair (.int .i64) (.pair (.int .i64) (.pair .str .str)))) (.list 73 (.pair .str (.list 95 (.pair (.int .i64) (.pair (.int .i64) (.pair .str .str)))))))))))))],ty:=some (.list 43 (.pair (.int .i64) (.pair .str (.pair .str (.pair .str (.pair .str (.pair (.list 95 (.pair (.int .i64) (.pair (.int .i64) (.pair .str .str)))) (.list 73 (.pair .str (.list 95 (.pair (.int .i64) (.pair (.int .i64) (.pair .str .str))))))))))))) } bt27
def bt23:BT:=.node bt5 23 { kind:=.slice 62,size:=1,bytes:=24,agg:=false,zero:=[.nil],cty:=[some (62,(.pair .str (.pair (.int .i64) (.pair (.int .i64) (.int .i64)))))],ty:=some (.list 62 (.pair .str (.pair (.int .i64) (.pair (.int .i64) (.int .i64))))) } bt25
def bt31:BT:=.node BT.leaf 31 { kind:=.struct [(0,29),(1,29)],size:=2,bytes:=48,agg:=true,zero:=[.nil,.nil],cty:=[some (3,(.int .i64)),some (3,(.int .i64))],ty:=some (.pair (.list 3 (.int .i64)) (.list 3 (.int .i64))) } BT.leaf
def bt32:BT:=.node bt31 32 { kind:=.slice 36,size:=1,bytes:=24,agg:=false,zero:=[.nil],cty:=[some (36,(.pair (.list 3 (.int .i64)) (.pair (.list 3 (.int .i64)) (.list 3 (.int .i64)))))],ty:=some (.list 36 (.pair (.list 3 (.int .i64)) (.pair (.list 3 (.int .i64)) (.list 3 (.int .i64))))) } BT.leaf
def bt37:BT:=.node BT.leaf 37 { kind:=.sc,size:=1,bytes:=8,agg:=false,zero:=[.int .i64 0],cty:=[none],ty:=some (.int .i64) } BT.leaf
def bt36:BT:=.node bt32 36 { kind:=.struct [(0,29),(1,31)],size:=3,bytes:=72,agg:=true,zero:=[.nil,.nil,.nil],cty:=[some (3,(.int .i64)),some (3,(.int .i64)),some (3,(.int .i64))],ty:=some (.pair (.list 3 (.int .i64)) (.pair (.list 3 (.int .i64)) (.list 3 (.int .i64)))) } bt37
def bt41:BT:=.node BT.leaf 41 { kind:=.slice 73,size:=1,bytes:=24,agg:=false,zero:=[.nil],cty:=[some (73,(.pair .str (.list 95 (.pair (.int .i64) (.pair (.int .i64) (.pair .str .str))))))],ty:=some (.list 73 (.pair .str (.list 95 (.pair (.int .i64) (.pair (.int .i64) (.pair .str .str)))))) } BT.leaf
def bt52:BT:=.node BT.leaf 52 { kind:=.slice 25,size:=1,bytes:=24,agg:=false,zero:=[.nil],cty:=[some (25,(.list 43 (.pair (.int .i64) (.pair .str (.pair .str (.pair .str (.pair .str (.pair (.list 95 (.pair (.int .i64) (.pair (.int .i64) (.pair .str .str)))) (.list 73 (.pair .str (.list 95 (.pair (.int .i64) (.pair (.int .i64) (.pair .str .str))))))))))))))],ty:=some (.list 25 (.list 43 (.pair (.int .i64) (.pair .str (.pair .str (.pair .str (.pair .str (.pair (.list 95 (.pair (.int .i64) (.pair (.int .i64) (.pair .str .str)))) (.list 73 (.pair .str (.list 95 (.pair (.int .i64) (.pair (.int .i64) (.pair .str .str)))))))))))))) } BT.leaf
def bt43:BT:=.node bt41 43 { kind:=.struct [(0,3),(1,9),(2,9),(3,9),(4,9),(5,40),(6,41)],size:=7,bytes:=120,agg:=true,zero:=[.int .i64 0,.str [],.str [],.str [],.str [],.nil,.nil],cty:=[none,none,none,none,none,some (95,(.pair (.int .i64) (.pair (.int .i64) (.pair .str .str)))),some (73,(.pair .str (.list 95 (.pair (.int .i64) (.pair (.int .i64) (.pair .str .str))))))],ty:=some (.pair (.int .i64) (.pair .str (.pair .str (.pair .str (.pair .str (.pair (.list 95 (.pair (.int .i64) (.pair (.int .i64) (.pair .str .str)))) (.list 73 (.pair .str (.list 95 (.pair (.int .i64) (.pair (.int .i64) (.pair .str .str)))))))))))) } bt52
def bt40:BT:=.node bt36 40 { kind:=.slice 95,size:=1,bytes:=24,agg:=false,zero:=[.nil],cty:=[some (95,(.pair (.int .i64) (.pair (.int .i64) (.pair .str .str))))],ty:=some (.list 95 (.pair (.int .i64) (.pair (.int .i64) (.pair .str .str)))) } bt43
def bt29:BT:=.node bt23 29 { kind:=.slice 3,size:=1,bytes:=24,agg:=false,zero:=[.nil],cty:=[some (3,(.int .i64))],ty:=some (.list 3 (.int .i64)) } bt40
def bt62:BT:=.node BT.leaf 62 { kind:=.struct [(0,9),(1,3),(2,3),(3,3)],size:=4,bytes:=40,agg:=true,zero:=[.str [],.int .i64 0,.int .i64 0,.int .i64 0],cty:=[none,none,none,none],ty:=some (.pair .str (.pair (.int .i64) (.pair (.int .i64) (.int .i64)))),eqf:=true } BT.leaf
def bt66:BT:=.node bt62 66 { kind:=.struct [(0,9),(1,58)],size:=2,bytes:=40,agg:=true,zero:=[.str [],.nil],cty:=[none,some (9,.str)],ty:=some (.pair .str (.list 9 .str)) } BT.leaf
def bt75:BT:=.node BT.leaf 75 { kind:=.other,size:=1,bytes:=8,agg:=false,zero:=[.bot],cty:=[none],ty:=none } BT.leaf
def bt73:BT:=.node bt66 73 { kind:=.struct [(0,9),(1,40)],size:=2,bytes:=40,agg:=true,zero:=[.str [],.nil],cty:=[none,some (95,(.pair (.int .i64) (.pair (.int .i64) (.pair .str .str))))],ty:=some (.pair .str (.list 95 (.pair (.int .i64) (.pair (.int .i64) (.pair .str .str))))) } bt75
def bt103:BT:=.node BT.leaf 103 { kind:=.other,size:=1,bytes:=8,agg:=false,zero:=[.bot],cty:=[none],ty:=none } BT.leaf
def bt105:BT:=.node BT.leaf 105 { kind:=.slice 111,size:=1,bytes:=24,agg:=false,zero:=[.nil],cty:=[some (111,(.pair (.int .i64) (.pair .str (.pair (.int .i64) (.int .i64)))))],ty:=some (.list 111 (.pair (.int .i64) (.pair .str (.pair (.int .i64) (.int .i64))))) } BT.leaf
def bt104:BT:=.node bt103 104 { kind:=.other,size:=1,bytes:=8,agg:=false,zero:=[.bot],cty:=[none],ty:=none } bt105
def bt95:BT:=.node bt73 95 { kind:=.struct [(0,3),(1,3),(2,9),(3,9)],size:=4,bytes:=48,agg:=true,zero:=[.int .i64 0,.int .i64 0,.str [],.str []],cty:=[none,none,none,none],ty:=some (.pair (.int .i64) (.pair (.int .i64) (.pair .str .str))),eqf:=true } bt104
def bt122:BT:=.node BT.leaf 122 { kind:=.other,size:=1,bytes:=8,agg:=false,zero:=[.bot],cty:=[none],ty:=none } BT.leaf
def bt124:BT:=.node bt122 124 { kind:=.struct [(0,105),(1,3),(2,40),(3,3)],size:=4,bytes:=64,agg:=true,zero:=[.nil,.int .i64 0,.nil,.int .i64 0],cty:=[some (111,(.pair (.int .i64) (.pair .str (.pair (.int .i64) (.int .i64))))),none,some (95,(.pair (.int .i64) (.pair (.int .i64) (.pair .str .str)))),none],ty:=some (.pair (.list 111 (.pair (.int .i64) (.pair .str (.pair (.int .i64) (.int .i64))))) (.pair (.int .i64) (.pair (.list 95 (.pair (.int .i64) (.pair (.int .i64) (.pair .str .str)))) (.int .i64)))) } BT.leaf
def bt128:BT:=.node BT.leaf 128 { kind:=.slice 131,size:=1,bytes:=24,agg:=false,zero:=[.nil],cty:=[some (131,(.pair .str (.int .i64)))],ty:=some (.list 131 (.pair .str (.int .i64))) } BT.leaf
def bt127:BT:=.node bt124 127 { kind:=.sc,size:=1,bytes:=8,agg:=false,zero:=[.int .u64 0],cty:=[none],ty:=some (.int .u64) } bt128
def bt131:BT:=.node BT.leaf 131 { kind:=.struct [(0,9),(1,3)],size:=2,bytes:=24,agg:=true,zero:=[.str [],.int .i64 0],cty:=[none,none],ty:=some (.pair .str (.int .i64)),eqf:=true } BT.leaf
def bt135:BT:=.node BT.leaf 135 { kind:=.array 9 9,size:=9,bytes:=144,agg:=true,zero:=[.str [],.str [],.str [],.str [],.str [],.str [],.str [],.str [],.str []],cty:=[none,none,none,none,none,none,none,none,none],ty:=none } BT.leaf
def bt133:BT:=.node bt131 133 { kind:=.map 9 4,size:=1,bytes:=8,agg:=false,zero:=[.bot],cty:=[none],ty:=none } bt135
def bt129:BT:=.node bt127 129 { kind:=.array 17 9,size:=17,bytes:=272,agg:=true,zero:=[.str [],.str [],.str [],.str [],.str [],.str [],.str [],.str [],.str [],.str [],.str [],.str [],.str [],.str [],.str [],.str [],.str []],cty:=[none,none,none,none,none,none,none,none,none,none,none,none,none,none,none,none,none],ty:=none } bt133
def bt111:BT:=.node bt95 111 { kind:=.struct [(0,3),(1,9),(2,3),(3,3)],size:=4,bytes:=40,agg:=true,zero:=[.int .i64 0,.str [],.int .i64 0,.int .i64 0],cty:=[none,none,none,none],ty:=some (.pair (.int .i64) (.pair .str (.pair (.int .i64) (.int .i64)))),eqf:=true } bt129
def bt58:BT:=.node bt29 58 { kind:=.slice 9,size:=1,bytes:=24,agg:=false,zero:=[.nil],cty:=[some (9,.str)],ty:=some (.list 9 .str) } bt111
def tab:BT:=bt58
def tau:Nat→Option TI:=tab.get
end Go.Proofs.Ytimcngbieedlcaa.Av
