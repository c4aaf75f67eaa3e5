import Derived.Test.YtepjdckdhddfbaaGreatDoorProg
import Derived.Test.YtepjdckdhddfbaaGreatDoorPQb
import Derived.Test.YtepjdckdhddfbaaGreatDoorPQc
set_option linter.unusedVariables false
set_option linter.unusedSimpArgs false
set_option maxRecDepth 4000
namespace Go.Proofs.Ec
open Go.RowKit Go.Proofs.Sx
theorem en61 : EnT Tryz.prog 61 := ento Tryz.func61
theorem sz143 : szT Tryz.prog 143 = some 2 := by kernel_rfl
theorem ag143 : isAg Tryz.prog 143 = some true := by kernel_rfl
theorem en189 : EnT Tryz.prog 189 := ento Tryz.func189
theorem en163 : EnT Tryz.prog 163 := ento Tryz.func163
theorem fo143_0 : fo Tryz.prog 143 0 = some 0 := by kernel_rfl
theorem ag3 : isAg Tryz.prog 3 = some false := by kernel_rfl
theorem en166 : EnT Tryz.prog 166 := ento Tryz.func166
theorem fo143_1 : fo Tryz.prog 143 1 = some 1 := by kernel_rfl
theorem en164 : EnT Tryz.prog 164 := ento Tryz.func164
theorem en165 : EnT Tryz.prog 165 := ento Tryz.func165
theorem sz3 : szT Tryz.prog 3 = some 1 := by kernel_rfl
theorem mixed : Tryz.prog.follows .mixedOrders = true := by kernel_rfl
theorem zc169 : zc Tryz.prog 169 = some #[.int .i64 0, .int .i64 0] := by kernel_rfl
theorem en190 : EnT Tryz.prog 190 := ento Tryz.func190
theorem bl169_0_1 (x0 : Int) (x1 : Int) (w : World) : (Instr.build 169 #[(0, .int .i64 x0), (1, .int .i64 x1)]).run Tryz.prog w = .ok (.agg #[.int .i64 x0, .int .i64 x1]) w := by kernel_rfl
theorem sz169 : szT Tryz.prog 169 = some 2 := by kernel_rfl
theorem ag169 : isAg Tryz.prog 169 = some true := by kernel_rfl
theorem zc143 : zc Tryz.prog 143 = some #[.int .i64 0, .int .i64 0] := by kernel_rfl
theorem bs74_1_0 (x0 : Int) : bsC Tryz.prog 74 1 [(0, .int .i64 x0)] = some (3, #[.int .i64 x0]) := by kernel_rfl
theorem ap74 : apT Tryz.prog 74 = some (3, 1, 8) := by kernel_rfl
theorem en168 : EnT Tryz.prog 168 := ento Tryz.func168
theorem en167 : EnT Tryz.prog 167 := ento Tryz.func167
theorem fo169_0 : fo Tryz.prog 169 0 = some 0 := by kernel_rfl
theorem fo169_1 : fo Tryz.prog 169 1 = some 1 := by kernel_rfl
theorem en140 : EnT Tryz.prog 140 := ento Tryz.func140
theorem bl169_  (w : World) : (Instr.build 169 #[]).run Tryz.prog w = .ok (.agg #[.int .i64 0, .int .i64 0]) w := by kernel_rfl
theorem en141 : EnT Tryz.prog 141 := ento Tryz.func141
theorem en170 : EnT Tryz.prog 170 := ento Tryz.func170
theorem en171 : EnT Tryz.prog 171 := ento Tryz.func171
theorem en172 : EnT Tryz.prog 172 := ento Tryz.func172
theorem en173 : EnT Tryz.prog 173 := ento Tryz.func173
theorem sz110 : szT Tryz.prog 110 = some 4 := by kernel_rfl
theorem ag110 : isAg Tryz.prog 110 = some true := by kernel_rfl
theorem en147 : EnT Tryz.prog 147 := ento Tryz.func147
theorem en148 : EnT Tryz.prog 148 := ento Tryz.func148
theorem en120 : EnT Tryz.prog 120 := ento Tryz.func120
theorem fo68_0 : fo Tryz.prog 68 0 = some 0 := by kernel_rfl
theorem fo68_1 : fo Tryz.prog 68 1 = some 1 := by kernel_rfl
theorem fo110_0 : fo Tryz.prog 110 0 = some 0 := by kernel_rfl
theorem sz68 : szT Tryz.prog 68 = some 2 := by kernel_rfl
theorem ag68 : isAg Tryz.prog 68 = some true := by kernel_rfl
theorem en121 : EnT Tryz.prog 121 := ento Tryz.func121
theorem fo110_1 : fo Tryz.prog 110 1 = some 2 := by kernel_rfl
theorem en122 : EnT Tryz.prog 122 := ento Tryz.func122
theorem fo110_2 : fo Tryz.prog 110 2 = some 3 := by kernel_rfl
theorem ag74 : isAg Tryz.prog 74 = some false := by kernel_rfl
theorem en125 : EnT Tryz.prog 125 := ento Tryz.func125
theorem en126 : EnT Tryz.prog 126 := ento Tryz.func126
theorem fo72_0 : fo Tryz.prog 72 0 = some 0 := by kernel_rfl
theorem ag66 : isAg Tryz.prog 66 = some false := by kernel_rfl
theorem fo72_1 : fo Tryz.prog 72 1 = some 1 := by kernel_rfl
theorem fo70_0 : fo Tryz.prog 70 0 = some 0 := by kernel_rfl
theorem fo70_1 : fo Tryz.prog 70 1 = some 2 := by kernel_rfl
theorem en123 : EnT Tryz.prog 123 := ento Tryz.func123
theorem en124 : EnT Tryz.prog 124 := ento Tryz.func124
theorem en127 : EnT Tryz.prog 127 := ento Tryz.func127
theorem fo147_1 : fo Tryz.prog 147 1 = some 4 := by kernel_rfl
theorem fo147_0 : fo Tryz.prog 147 0 = some 0 := by kernel_rfl
theorem zc110 : zc Tryz.prog 110 = some #[.int .i64 0, .int .i64 0, .int .i64 0, .slice none 0 0] := by kernel_rfl
theorem sz147 : szT Tryz.prog 147 = some 5 := by kernel_rfl
theorem ag147 : isAg Tryz.prog 147 = some true := by kernel_rfl
theorem en129 : EnT Tryz.prog 129 := ento Tryz.func129
theorem bs74_2_0_1 (x0 : Int) (x1 : Int) : bsC Tryz.prog 74 2 [(0, .int .i64 x0), (1, .int .i64 x1)] = some (3, #[.int .i64 x0, .int .i64 x1]) := by kernel_rfl
theorem en128 : EnT Tryz.prog 128 := ento Tryz.func128
theorem en103 : EnT Tryz.prog 103 := ento Tryz.func103
theorem en102 : EnT Tryz.prog 102 := ento Tryz.func102
theorem bs74_3_0_1_2 (x0 : Int) (x1 : Int) (x2 : Int) : bsC Tryz.prog 74 3 [(0, .int .i64 x0), (1, .int .i64 x1), (2, .int .i64 x2)] = some (3, #[.int .i64 x0, .int .i64 x1, .int .i64 x2]) := by kernel_rfl
theorem en178 : EnT Tryz.prog 178 := ento Tryz.func178
theorem zc234 : zc Tryz.prog 234 = some #[.int .i64 0, .int .i64 0] := by kernel_rfl
theorem bl235_0_1 (x0 : Fn) (x0f : Array Value) (x0c : Array Value) (x3 : Fn) (x3f : Array Value) (x3c : Array Value) (w : World) : (Instr.build 235 #[(0, .func x0 x0f x0c), (1, .func x3 x3f x3c)]).run Tryz.prog w = .ok (.agg #[.func x0 x0f x0c, .func x3 x3f x3c]) w := by kernel_rfl
theorem ix235_0 (x0 : Fn) (x0f : Array Value) (x0c : Array Value) (x3 : Fn) (x3f : Array Value) (x3c : Array Value) (w : World) : (Instr.index 235 (.agg #[.func x0 x0f x0c, .func x3 x3f x3c]) (.int .i64 ((0 : Nat) : Int))).run Tryz.prog w = .ok (.func x0 x0f x0c) w := by kernel_rfl
theorem en191 : EnT Tryz.prog 191 := ento Tryz.func191
theorem ix235_1 (x0 : Fn) (x0f : Array Value) (x0c : Array Value) (x3 : Fn) (x3f : Array Value) (x3c : Array Value) (w : World) : (Instr.index 235 (.agg #[.func x0 x0f x0c, .func x3 x3f x3c]) (.int .i64 ((1 : Nat) : Int))).run Tryz.prog w = .ok (.func x3 x3f x3c) w := by kernel_rfl
theorem en152 : EnT Tryz.prog 152 := ento Tryz.func152
theorem sz72 : szT Tryz.prog 72 = some 4 := by kernel_rfl
theorem ag72 : isAg Tryz.prog 72 = some true := by kernel_rfl
theorem bl147_0_1 (x0 : Option Addr) (x0n : Nat) (x0c : Nat) (x3 : Int) (x4 : Int) (x5 : Int) (x6 : Int) (w : World) : (Instr.build 147 #[(0, .agg #[.slice x0 x0n x0c, .int .i64 x3, .int .i64 x4, .int .i64 x5]), (1, .int .i64 x6)]).run Tryz.prog w = .ok (.agg #[.slice x0 x0n x0c, .int .i64 x3, .int .i64 x4, .int .i64 x5, .int .i64 x6]) w := by kernel_rfl
theorem zc147 : zc Tryz.prog 147 = some #[.slice none 0 0, .int .i64 0, .int .i64 0, .int .i64 0, .int .i64 0] := by kernel_rfl
theorem ta203_200_226 (w : World) : (Instr.typeAssert (.iface 203 (.agg #[])) 200 226 true).run Tryz.prog w = .ok (.tuple #[.agg #[.int .i64 0, .int .i64 0], .bool false]) w := by kernel_rfl
theorem ta203_200_204 (w : World) : (Instr.typeAssert (.iface 203 (.agg #[])) 200 204 true).run Tryz.prog w = .ok (.tuple #[.agg #[], .bool false]) w := by kernel_rfl
theorem en177 : EnT Tryz.prog 177 := ento Tryz.func177
theorem en176 : EnT Tryz.prog 176 := ento Tryz.func176
theorem ta204_200_226 (w : World) : (Instr.typeAssert (.iface 204 (.agg #[])) 200 226 true).run Tryz.prog w = .ok (.tuple #[.agg #[.int .i64 0, .int .i64 0], .bool false]) w := by kernel_rfl
theorem ta204_200_204 (w : World) : (Instr.typeAssert (.iface 204 (.agg #[])) 200 204 true).run Tryz.prog w = .ok (.tuple #[.agg #[], .bool true]) w := by kernel_rfl
theorem zc204 : zc Tryz.prog 204 = some #[] := by kernel_rfl
theorem sz204 : szT Tryz.prog 204 = some 0 := by kernel_rfl
theorem en104 : EnT Tryz.prog 104 := ento Tryz.func104
theorem en99 : EnT Tryz.prog 99 := ento Tryz.func99
theorem en100 : EnT Tryz.prog 100 := ento Tryz.func100
theorem en101 : EnT Tryz.prog 101 := ento Tryz.func101
theorem en151 : EnT Tryz.prog 151 := ento Tryz.func151
theorem ag182 : isAg Tryz.prog 182 = some false := by kernel_rfl
theorem cm203_214 : ∀ w : World, (callMethod (.iface 203 (.agg #[])) "tellurion/sky.full" #[]).run Tryz.prog w = .ok (.enter 214 #[.agg #[]]) w := by intro w; kernel_rfl
theorem bl185_0_1 (x0 : Int) (x1 : Bool) (w : World) : (Instr.build 185 #[(0, .int .i64 x0), (1, .bool x1)]).run Tryz.prog w = .ok (.agg #[.int .i64 x0, .bool x1]) w := by kernel_rfl
theorem bs182_1_0 (x0 : Int) (x1 : Bool) : bsC Tryz.prog 182 1 [(0, .agg #[.int .i64 x0, .bool x1])] = some (185, #[.int .i64 x0, .bool x1]) := by kernel_rfl
theorem ap182 : apT Tryz.prog 182 = some (185, 2, 16) := by kernel_rfl
theorem sz182 : szT Tryz.prog 182 = some 1 := by kernel_rfl
theorem cm204_215 : ∀ w : World, (callMethod (.iface 204 (.agg #[])) "tellurion/sky.full" #[]).run Tryz.prog w = .ok (.enter 215 #[.agg #[]]) w := by intro w; kernel_rfl
theorem zc182 : zc Tryz.prog 182 = some #[.slice none 0 0] := by kernel_rfl
theorem en149 : EnT Tryz.prog 149 := ento Tryz.func149
theorem en174 : EnT Tryz.prog 174 := ento Tryz.func174
theorem bl203_  (w : World) : (Instr.build 203 #[]).run Tryz.prog w = .ok (.agg #[]) w := by kernel_rfl
theorem en150 : EnT Tryz.prog 150 := ento Tryz.func150
theorem bl204_  (w : World) : (Instr.build 204 #[]).run Tryz.prog w = .ok (.agg #[]) w := by kernel_rfl
theorem en130 : EnT Tryz.prog 130 := ento Tryz.func130
theorem en131 : EnT Tryz.prog 131 := ento Tryz.func131
theorem en132 : EnT Tryz.prog 132 := ento Tryz.func132
theorem sz185 : szT Tryz.prog 185 = some 2 := by kernel_rfl
theorem ag185 : isAg Tryz.prog 185 = some true := by kernel_rfl
theorem zc185 : zc Tryz.prog 185 = some #[.int .i64 0, .bool false] := by kernel_rfl
theorem fo185_1 : fo Tryz.prog 185 1 = some 1 := by kernel_rfl
theorem ag4 : isAg Tryz.prog 4 = some false := by kernel_rfl
theorem fo185_0 : fo Tryz.prog 185 0 = some 0 := by kernel_rfl
theorem en133 : EnT Tryz.prog 133 := ento Tryz.func133
theorem bl87_0_1_2 (x0 : Int) (x1 : Bool) (x2 : Int) (w : World) : (Instr.build 87 #[(0, .int .i64 x0), (1, .bool x1), (2, .int .i64 x2)]).run Tryz.prog w = .ok (.agg #[.int .i64 x0, .bool x1, .int .i64 x2]) w := by kernel_rfl
theorem bs22_1_0 (x0 : Int) (x1 : Bool) (x2 : Int) : bsC Tryz.prog 22 1 [(0, .agg #[.int .i64 x0, .bool x1, .int .i64 x2])] = some (87, #[.int .i64 x0, .bool x1, .int .i64 x2]) := by kernel_rfl
theorem ap22 : apT Tryz.prog 22 = some (87, 3, 24) := by kernel_rfl
theorem zc68 : zc Tryz.prog 68 = some #[.int .i64 0, .int .i64 0] := by kernel_rfl
theorem bl221_0 (x0 : Int) (w : World) : (Instr.build 221 #[(0, .int .i64 x0)]).run Tryz.prog w = .ok (.agg #[.int .i64 x0]) w := by kernel_rfl
theorem en144 : EnT Tryz.prog 144 := ento Tryz.func144
theorem tv221_20 (x0 : Int) (w : World) : (Instr.typeAssert (.iface 221 (.agg #[.int .i64 x0])) 20 221 true).run Tryz.prog w = .ok (.tuple #[.agg #[.int .i64 x0], .bool true]) w := by kernel_rfl
theorem zc221 : zc Tryz.prog 221 = some #[.int .i64 0] := by kernel_rfl
theorem sz221 : szT Tryz.prog 221 = some 1 := by kernel_rfl
theorem fo221_0 : fo Tryz.prog 221 0 = some 0 := by kernel_rfl
theorem ag24 : isAg Tryz.prog 24 = some false := by kernel_rfl
theorem sz24 : szT Tryz.prog 24 = some 1 := by kernel_rfl
theorem zc24 : zc Tryz.prog 24 = some #[.int .i64 0] := by kernel_rfl
theorem en143 : EnT Tryz.prog 143 := ento Tryz.func143
theorem en169 : EnT Tryz.prog 169 := ento Tryz.func169
theorem zc3 : zc Tryz.prog 3 = some #[.int .i64 0] := by kernel_rfl
theorem en142 : EnT Tryz.prog 142 := ento Tryz.func142
theorem en145 : EnT Tryz.prog 145 := ento Tryz.func145
theorem en105 : EnT Tryz.prog 105 := ento Tryz.func105
theorem fo105_0 : fo Tryz.prog 105 0 = some 0 := by kernel_rfl
theorem fo76_4 : fo Tryz.prog 76 4 = some 7 := by kernel_rfl
theorem fo105_1 : fo Tryz.prog 105 1 = some 11 := by kernel_rfl
theorem en146 : EnT Tryz.prog 146 := ento Tryz.func146
theorem fo76_0 : fo Tryz.prog 76 0 = some 0 := by kernel_rfl
theorem sz105 : szT Tryz.prog 105 = some 13 := by kernel_rfl
theorem ag105 : isAg Tryz.prog 105 = some true := by kernel_rfl
theorem fo76_1 : fo Tryz.prog 76 1 = some 4 := by kernel_rfl
theorem ag73 : isAg Tryz.prog 73 = some false := by kernel_rfl
theorem en119 : EnT Tryz.prog 119 := ento Tryz.func119
theorem fo76_2 : fo Tryz.prog 76 2 = some 5 := by kernel_rfl
theorem fo76_3 : fo Tryz.prog 76 3 = some 6 := by kernel_rfl
theorem zc63 : zc Tryz.prog 63 = some #[.int .i64 0, .int .i64 0, .int .i64 0] := by kernel_rfl
theorem fo105_2 : fo Tryz.prog 105 2 = some 12 := by kernel_rfl
theorem ag103 : isAg Tryz.prog 103 = some false := by kernel_rfl
theorem zv63 : ∀ w : World, (zeroValue 63).run Tryz.prog w = .ok (.agg #[.int .i64 0, .int .i64 0, .int .i64 0]) w := by intro w; kernel_rfl
theorem sz63 : szT Tryz.prog 63 = some 3 := by kernel_rfl
theorem ag63 : isAg Tryz.prog 63 = some true := by kernel_rfl
theorem zc140 : zc Tryz.prog 140 = some #[.int .i64 0, .int .i64 0, .int .i64 0] := by kernel_rfl
theorem bl141_0_1_2 (x0 : Fn) (x0f : Array Value) (x0c : Array Value) (x3 : Fn) (x3f : Array Value) (x3c : Array Value) (x6 : Fn) (x6f : Array Value) (x6c : Array Value) (w : World) : (Instr.build 141 #[(0, .func x0 x0f x0c), (1, .func x3 x3f x3c), (2, .func x6 x6f x6c)]).run Tryz.prog w = .ok (.agg #[.func x0 x0f x0c, .func x3 x3f x3c, .func x6 x6f x6c]) w := by kernel_rfl
theorem ix141_0 (x0 : Fn) (x0f : Array Value) (x0c : Array Value) (x3 : Fn) (x3f : Array Value) (x3c : Array Value) (x6 : Fn) (x6f : Array Value) (x6c : Array Value) (w : World) : (Instr.index 141 (.agg #[.func x0 x0f x0c, .func x3 x3f x3c, .func x6 x6f x6c]) (.int .i64 ((0 : Nat) : Int))).run Tryz.prog w = .ok (.func x0 x0f x0c) w := by kernel_rfl
theorem en96 : EnT Tryz.prog 96 := ento Tryz.func96
theorem ix141_1 (x0 : Fn) (x0f : Array Value) (x0c : Array Value) (x3 : Fn) (x3f : Array Value) (x3c : Array Value) (x6 : Fn) (x6f : Array Value) (x6c : Array Value) (w : World) : (Instr.index 141 (.agg #[.func x0 x0f x0c, .func x3 x3f x3c, .func x6 x6f x6c]) (.int .i64 ((1 : Nat) : Int))).run Tryz.prog w = .ok (.func x3 x3f x3c) w := by kernel_rfl
theorem en97 : EnT Tryz.prog 97 := ento Tryz.func97
theorem ix141_2 (x0 : Fn) (x0f : Array Value) (x0c : Array Value) (x3 : Fn) (x3f : Array Value) (x3c : Array Value) (x6 : Fn) (x6f : Array Value) (x6c : Array Value) (w : World) : (Instr.index 141 (.agg #[.func x0 x0f x0c, .func x3 x3f x3c, .func x6 x6f x6c]) (.int .i64 ((2 : Nat) : Int))).run Tryz.prog w = .ok (.func x6 x6f x6c) w := by kernel_rfl
theorem en98 : EnT Tryz.prog 98 := ento Tryz.func98
theorem bl63_0_1_2 (x0 : Int) (x1 : Int) (x2 : Int) (w : World) : (Instr.build 63 #[(0, .int .i64 x0), (1, .int .i64 x1), (2, .int .i64 x2)]).run Tryz.prog w = .ok (.agg #[.int .i64 x0, .int .i64 x1, .int .i64 x2]) w := by kernel_rfl
theorem en64 : EnT Tryz.prog 64 := ento Tryz.func64
theorem fo63_1 : fo Tryz.prog 63 1 = some 1 := by kernel_rfl
theorem fo63_0 : fo Tryz.prog 63 0 = some 0 := by kernel_rfl
theorem fo63_2 : fo Tryz.prog 63 2 = some 2 := by kernel_rfl
theorem bl151_  (w : World) : (Instr.build 151 #[]).run Tryz.prog w = .ok (.agg #[]) w := by kernel_rfl
theorem en109 : EnT Tryz.prog 109 := ento Tryz.func109
theorem en68 : EnT Tryz.prog 68 := ento Tryz.func68
theorem ta151_121_152 (w : World) : (Instr.typeAssert (.iface 151 (.agg #[])) 121 152 true).run Tryz.prog w = .ok (.tuple #[.agg #[], .bool false]) w := by kernel_rfl
theorem cm151_211 : ∀ w : World, (callMethod (.iface 151 (.agg #[])) "tellurion/eclipse.full" #[]).run Tryz.prog w = .ok (.enter 211 #[.agg #[]]) w := by intro w; kernel_rfl
theorem fo76_5 : fo Tryz.prog 76 5 = some 8 := by kernel_rfl
theorem bl152_  (w : World) : (Instr.build 152 #[]).run Tryz.prog w = .ok (.agg #[]) w := by kernel_rfl
theorem ta152_121_152 (w : World) : (Instr.typeAssert (.iface 152 (.agg #[])) 121 152 true).run Tryz.prog w = .ok (.tuple #[.agg #[], .bool true]) w := by kernel_rfl
theorem cm152_212 : ∀ w : World, (callMethod (.iface 152 (.agg #[])) "tellurion/eclipse.full" #[]).run Tryz.prog w = .ok (.enter 212 #[.agg #[]]) w := by intro w; kernel_rfl
theorem fo76_6 : fo Tryz.prog 76 6 = some 9 := by kernel_rfl
theorem bi153_151_152 (w : World) : (Instr.build 153 #[(0, .iface 151 (.agg #[])), (1, .iface 152 (.agg #[]))]).run Tryz.prog w = .ok (.agg #[.iface 151 (.agg #[]), .iface 152 (.agg #[])]) w := by kernel_rfl
theorem ix153_151_152_0 (w : World) : (Instr.index 153 (.agg #[.iface 151 (.agg #[]), .iface 152 (.agg #[])]) (.int .i64 ((0 : Nat) : Int))).run Tryz.prog w = .ok (.iface 151 (.agg #[])) w := by kernel_rfl
theorem en75 : EnT Tryz.prog 75 := ento Tryz.func75
theorem en76 : EnT Tryz.prog 76 := ento Tryz.func76
theorem fo76_7 : fo Tryz.prog 76 7 = some 10 := by kernel_rfl
theorem en77 : EnT Tryz.prog 77 := ento Tryz.func77
theorem ix153_151_152_1 (w : World) : (Instr.index 153 (.agg #[.iface 151 (.agg #[]), .iface 152 (.agg #[])]) (.int .i64 ((1 : Nat) : Int))).run Tryz.prog w = .ok (.iface 152 (.agg #[])) w := by kernel_rfl
theorem zc4 : zc Tryz.prog 4 = some #[.bool false] := by kernel_rfl
theorem fo87_0 : fo Tryz.prog 87 0 = some 0 := by kernel_rfl
theorem en70 : EnT Tryz.prog 70 := ento Tryz.func70
theorem en106 : EnT Tryz.prog 106 := ento Tryz.func106
theorem zc87 : zc Tryz.prog 87 = some #[.int .i64 0, .bool false, .int .i64 0] := by kernel_rfl
theorem sz87 : szT Tryz.prog 87 = some 3 := by kernel_rfl
theorem fo87_1 : fo Tryz.prog 87 1 = some 1 := by kernel_rfl
theorem sz4 : szT Tryz.prog 4 = some 1 := by kernel_rfl
theorem en108 : EnT Tryz.prog 108 := ento Tryz.func108
theorem bs168_3_0_1_2 (x0 : Option Addr) (x0n : Nat) (x0c : Nat) (x3 : Option Addr) (x3n : Nat) (x3c : Nat) (x6 : Option Addr) (x6n : Nat) (x6c : Nat) : bsC Tryz.prog 168 3 [(0, .slice x0 x0n x0c), (1, .slice x3 x3n x3c), (2, .slice x6 x6n x6c)] = some (73, #[.slice x0 x0n x0c, .slice x3 x3n x3c, .slice x6 x6n x6c]) := by kernel_rfl
theorem sz73 : szT Tryz.prog 73 = some 1 := by kernel_rfl
theorem en117 : EnT Tryz.prog 117 := ento Tryz.func117
theorem en118 : EnT Tryz.prog 118 := ento Tryz.func118
theorem en95 : EnT Tryz.prog 95 := ento Tryz.func95
theorem en78 : EnT Tryz.prog 78 := ento Tryz.func78
theorem zc105 : zc Tryz.prog 105 = some #[.slice none 0 0, .int .i64 0, .int .i64 0, .int .i64 0, .slice none 0 0, .slice none 0 0, .slice none 0 0, .slice none 0 0, .int .i64 0, .int .i64 0, .int .i64 0, .slice none 0 0, .map none] := by kernel_rfl
theorem sz76 : szT Tryz.prog 76 = some 11 := by kernel_rfl
theorem ag76 : isAg Tryz.prog 76 = some true := by kernel_rfl
theorem en94 : EnT Tryz.prog 94 := ento Tryz.func94
theorem bl105_0_1_2 (x0 : Option Addr) (x0n : Nat) (x0c : Nat) (x3 : Int) (x4 : Int) (x5 : Int) (x6 : Option Addr) (x6n : Nat) (x6c : Nat) (x9 : Option Addr) (x9n : Nat) (x9c : Nat) (x12 : Option Addr) (x12n : Nat) (x12c : Nat) (x15 : Option Addr) (x15n : Nat) (x15c : Nat) (x18 : Int) (x19 : Int) (x20 : Int) (x21 : Option Addr) (x21n : Nat) (x21c : Nat) (x24 : Option Nat) (w : World) : (Instr.build 105 #[(0, .agg #[.slice x0 x0n x0c, .int .i64 x3, .int .i64 x4, .int .i64 x5, .slice x6 x6n x6c, .slice x9 x9n x9c, .slice x12 x12n x12c, .slice x15 x15n x15c, .int .i64 x18, .int .i64 x19, .int .i64 x20]), (1, .slice x21 x21n x21c), (2, .map x24)]).run Tryz.prog w = .ok (.agg #[.slice x0 x0n x0c, .int .i64 x3, .int .i64 x4, .int .i64 x5, .slice x6 x6n x6c, .slice x9 x9n x9c, .slice x12 x12n x12c, .slice x15 x15n x15c, .int .i64 x18, .int .i64 x19, .int .i64 x20, .slice x21 x21n x21c, .map x24]) w := by kernel_rfl
theorem en63 : EnT Tryz.prog 63 := ento Tryz.func63
theorem en62 : EnT Tryz.prog 62 := ento Tryz.func62
theorem en66 : EnT Tryz.prog 66 := ento Tryz.func66
theorem en67 : EnT Tryz.prog 67 := ento Tryz.func67
theorem en73 : EnT Tryz.prog 73 := ento Tryz.func73
theorem ag87 : isAg Tryz.prog 87 = some true := by kernel_rfl
theorem en107 : EnT Tryz.prog 107 := ento Tryz.func107
theorem en69 : EnT Tryz.prog 69 := ento Tryz.func69
theorem zc22 : zc Tryz.prog 22 = some #[.slice none 0 0] := by kernel_rfl
theorem ag22 : isAg Tryz.prog 22 = some false := by kernel_rfl
theorem sz22 : szT Tryz.prog 22 = some 1 := by kernel_rfl
theorem en71 : EnT Tryz.prog 71 := ento Tryz.func71
theorem en72 : EnT Tryz.prog 72 := ento Tryz.func72
theorem en89 : EnT Tryz.prog 89 := ento Tryz.func89
theorem sz39 : szT Tryz.prog 39 = some 1 := by kernel_rfl
theorem ag39 : isAg Tryz.prog 39 = some false := by kernel_rfl
theorem eqs87 (x0 y0 : Int) (x1 y1 : Bool) (x2 y2 : Int) : eqT Tryz.prog 87 (.agg #[.int .i64 x0, .bool x1, .int .i64 x2]) (.agg #[.int .i64 y0, .bool y1, .int .i64 y2]) ((x0 == y0) && (x1 == y1) && (x2 == y2)) := by
  intro w
  rw [show Op.maxDepth = (Op.maxDepth - 1) + 1 from rfl, run_equalIn_struct w _ 87 _ _ (by kernel_rfl) (by kernel_rfl)]
  have p0 : ∀ (x0 : Int) (x1 : Bool) (x2 : Int), (Go.part 3 #[.int .i64 x0, .bool x1, .int .i64 x2] 0).run Tryz.prog w = .ok (.int .i64 x0) w := by intro x0 x1 x2; kernel_rfl
  have p1 : ∀ (x0 : Int) (x1 : Bool) (x2 : Int), (Go.part 4 #[.int .i64 x0, .bool x1, .int .i64 x2] 1).run Tryz.prog w = .ok (.bool x1) w := by intro x0 x1 x2; kernel_rfl
  have p2 : ∀ (x0 : Int) (x1 : Bool) (x2 : Int), (Go.part 3 #[.int .i64 x0, .bool x1, .int .i64 x2] 2).run Tryz.prog w = .ok (.int .i64 x2) w := by intro x0 x1 x2; kernel_rfl
  have q3 : ∀ x y : Int, (Op.equalIn (Op.maxDepth - 1) 3 (.int .i64 x) (.int .i64 y)).run Tryz.prog w = .ok (x == y) w := fun x y => run_equalIn_int w _ 3 .i64 .i64 x y Tryz.underlying3
  have q4 : ∀ x y : Bool, (Op.equalIn (Op.maxDepth - 1) 4 (.bool x) (.bool y)).run Tryz.prog w = .ok (x == y) w := fun x y => run_equalIn_bool' w _ 4 x y Tryz.underlying4
  simp only [Program.fieldsOf, Tryz.underlying87, Op.eqFields, Sem.run_bind, p0, p1, p2, q3, q4, Result.andThen, Sem.run_ite]
  cases h0 : (x0 == y0) <;> cases h1 : (x1 == y1) <;> cases h2 : (x2 == y2) <;> simp
theorem en74 : EnT Tryz.prog 74 := ento Tryz.func74
theorem en110 : EnT Tryz.prog 110 := ento Tryz.func110
theorem en84 : EnT Tryz.prog 84 := ento Tryz.func84
theorem en85 : EnT Tryz.prog 85 := ento Tryz.func85
theorem en83 : EnT Tryz.prog 83 := ento Tryz.func83
theorem sz74 : szT Tryz.prog 74 = some 1 := by kernel_rfl
theorem en82 : EnT Tryz.prog 82 := ento Tryz.func82
theorem ag125 : isAg Tryz.prog 125 = some false := by kernel_rfl
theorem bs125_1_0 (x0 : Option Addr) (x0n : Nat) (x0c : Nat) : bsC Tryz.prog 125 1 [(0, .slice x0 x0n x0c)] = some (74, #[.slice x0 x0n x0c]) := by kernel_rfl
theorem ap125 : apT Tryz.prog 125 = some (74, 1, 24) := by kernel_rfl
theorem sz125 : szT Tryz.prog 125 = some 1 := by kernel_rfl
theorem ag126 : isAg Tryz.prog 126 = some false := by kernel_rfl
theorem en80 : EnT Tryz.prog 80 := ento Tryz.func80
theorem en79 : EnT Tryz.prog 79 := ento Tryz.func79
theorem zc125 : zc Tryz.prog 125 = some #[.slice none 0 0] := by kernel_rfl
theorem zc126 : zc Tryz.prog 126 = some #[.nilFunc] := by kernel_rfl
theorem sz126 : szT Tryz.prog 126 = some 1 := by kernel_rfl
theorem en81 : EnT Tryz.prog 81 := ento Tryz.func81
theorem fo51_0 : fo Tryz.prog 51 0 = some 0 := by kernel_rfl
theorem fo51_1 : fo Tryz.prog 51 1 = some 1 := by kernel_rfl
theorem en93 : EnT Tryz.prog 93 := ento Tryz.func93
theorem fo51_2 : fo Tryz.prog 51 2 = some 2 := by kernel_rfl
theorem bl99_0 (x0 : Int) (w : World) : (Instr.build 99 #[(0, .int .i64 x0)]).run Tryz.prog w = .ok (.agg #[.int .i64 x0]) w := by kernel_rfl
theorem sz51 : szT Tryz.prog 51 = some 3 := by kernel_rfl
theorem ag51 : isAg Tryz.prog 51 = some true := by kernel_rfl
theorem zc51 : zc Tryz.prog 51 = some #[.int .i64 0, .int .i64 0, .int .i64 0] := by kernel_rfl
theorem tv99_20 (x0 : Int) (w : World) : (Instr.typeAssert (.iface 99 (.agg #[.int .i64 x0])) 20 99 true).run Tryz.prog w = .ok (.tuple #[.agg #[.int .i64 x0], .bool true]) w := by kernel_rfl
theorem zc99 : zc Tryz.prog 99 = some #[.int .i64 0] := by kernel_rfl
theorem sz99 : szT Tryz.prog 99 = some 1 := by kernel_rfl
theorem en54 : EnT Tryz.prog 54 := ento Tryz.func54
theorem en53 : EnT Tryz.prog 53 := ento Tryz.func53
theorem en56 : EnT Tryz.prog 56 := ento Tryz.func56
theorem en17 : EnT Tryz.prog 17 := ento Tryz.func17
theorem en57 : EnT Tryz.prog 57 := ento Tryz.func57
theorem bs42_1_0 (x0 : Int) : bsC Tryz.prog 42 1 [(0, .int .i64 x0)] = some (39, #[.int .i64 x0]) := by kernel_rfl
theorem ap42 : apT Tryz.prog 42 = some (39, 1, 8) := by kernel_rfl
theorem zc156 : zc Tryz.prog 156 = some #[.string ByteArray.empty, .string ByteArray.empty] := by kernel_rfl
theorem bl156_0_1 (x0 : ByteArray) (x1 : ByteArray) (w : World) : (Instr.build 156 #[(0, .string x0), (1, .string x1)]).run Tryz.prog w = .ok (.agg #[.string x0, .string x1]) w := by kernel_rfl
theorem sz156 : szT Tryz.prog 156 = some 2 := by kernel_rfl
theorem ag156 : isAg Tryz.prog 156 = some true := by kernel_rfl
theorem en112 : EnT Tryz.prog 112 := ento Tryz.func112
theorem ix156_1 (x0 : ByteArray) (x1 : ByteArray) (w : World) : (Instr.index 156 (.agg #[.string x0, .string x1]) (.int .i64 ((1 : Nat) : Int))).run Tryz.prog w = .ok (.string x1) w := by kernel_rfl
theorem ix156_0 (x0 : ByteArray) (x1 : ByteArray) (w : World) : (Instr.index 156 (.agg #[.string x0, .string x1]) (.int .i64 ((0 : Nat) : Int))).run Tryz.prog w = .ok (.string x0) w := by kernel_rfl
theorem fo87_2 : fo Tryz.prog 87 2 = some 2 := by kernel_rfl
theorem en86 : EnT Tryz.prog 86 := ento Tryz.func86
theorem bs95_1_0 (x0 : ByteArray) : bsC Tryz.prog 95 1 [(0, .string x0)] = some (9, #[.string x0]) := by kernel_rfl
theorem en87 : EnT Tryz.prog 87 := ento Tryz.func87
theorem ap95 : apT Tryz.prog 95 = some (9, 1, 16) := by kernel_rfl
theorem sz9 : szT Tryz.prog 9 = some 1 := by kernel_rfl
theorem ag9 : isAg Tryz.prog 9 = some false := by kernel_rfl
theorem en88 : EnT Tryz.prog 88 := ento Tryz.func88
theorem bl92_0 (x0 : ByteArray) (w : World) : (Instr.build 92 #[(0, .string x0)]).run Tryz.prog w = .ok (.agg #[.string x0]) w := by kernel_rfl
theorem en91 : EnT Tryz.prog 91 := ento Tryz.func91
theorem en90 : EnT Tryz.prog 90 := ento Tryz.func90
theorem en92 : EnT Tryz.prog 92 := ento Tryz.func92
theorem en45 : EnT Tryz.prog 45 := ento Tryz.func45
theorem tv92_20 (x0 : ByteArray) (w : World) : (Instr.typeAssert (.iface 92 (.agg #[.string x0])) 20 92 true).run Tryz.prog w = .ok (.tuple #[.agg #[.string x0], .bool true]) w := by kernel_rfl
theorem zc92 : zc Tryz.prog 92 = some #[.string ByteArray.empty] := by kernel_rfl
theorem sz92 : szT Tryz.prog 92 = some 1 := by kernel_rfl
theorem en49 : EnT Tryz.prog 49 := ento Tryz.func49
theorem en48 : EnT Tryz.prog 48 := ento Tryz.func48
theorem en44 : EnT Tryz.prog 44 := ento Tryz.func44
theorem bs35_1_0 (x0 : Int) : bsC Tryz.prog 35 1 [(0, .int .u8 x0)] = some (5, #[.int .u8 x0]) := by kernel_rfl
theorem en50 : EnT Tryz.prog 50 := ento Tryz.func50
theorem bl143_0_1 (x0 : Int) (x1 : Int) (w : World) : (Instr.build 143 #[(0, .int .i64 x0), (1, .int .i64 x1)]).run Tryz.prog w = .ok (.agg #[.int .i64 x0, .int .i64 x1]) w := by kernel_rfl
theorem bs73_1_0 (x0 : Int) (x1 : Int) : bsC Tryz.prog 73 1 [(0, .agg #[.int .i64 x0, .int .i64 x1])] = some (143, #[.int .i64 x0, .int .i64 x1]) := by kernel_rfl
theorem ap73 : apT Tryz.prog 73 = some (143, 2, 16) := by kernel_rfl
theorem bl51_0_2 (x0 : Int) (x1 : Int) (w : World) : (Instr.build 51 #[(0, .int .i64 x0), (2, .int .i64 x1)]).run Tryz.prog w = .ok (.agg #[.int .i64 x0, .int .i64 0, .int .i64 x1]) w := by kernel_rfl
theorem bl51_0_1_2 (x0 : Int) (x1 : Int) (x2 : Int) (w : World) : (Instr.build 51 #[(0, .int .i64 x0), (1, .int .i64 x1), (2, .int .i64 x2)]).run Tryz.prog w = .ok (.agg #[.int .i64 x0, .int .i64 x1, .int .i64 x2]) w := by kernel_rfl
theorem bs37_3_0_1_2 (x0 : Int) (x1 : Int) (x2 : Int) (x3 : Int) (x4 : Int) (x5 : Int) (x6 : Int) (x7 : Int) (x8 : Int) : bsC Tryz.prog 37 3 [(0, .agg #[.int .i64 x0, .int .i64 x1, .int .i64 x2]), (1, .agg #[.int .i64 x3, .int .i64 x4, .int .i64 x5]), (2, .agg #[.int .i64 x6, .int .i64 x7, .int .i64 x8])] = some (51, #[.int .i64 x0, .int .i64 x1, .int .i64 x2, .int .i64 x3, .int .i64 x4, .int .i64 x5, .int .i64 x6, .int .i64 x7, .int .i64 x8]) := by kernel_rfl
theorem zc76 : zc Tryz.prog 76 = some #[.slice none 0 0, .int .i64 0, .int .i64 0, .int .i64 0, .slice none 0 0, .slice none 0 0, .slice none 0 0, .slice none 0 0, .int .i64 0, .int .i64 0, .int .i64 0] := by kernel_rfl
theorem bl68_0_1 (x0 : Int) (x1 : Int) (w : World) : (Instr.build 68 #[(0, .int .i64 x0), (1, .int .i64 x1)]).run Tryz.prog w = .ok (.agg #[.int .i64 x0, .int .i64 x1]) w := by kernel_rfl
theorem bl110_0_2 (x0 : Int) (x1 : Int) (x2 : Option Addr) (x2n : Nat) (x2c : Nat) (w : World) : (Instr.build 110 #[(0, .agg #[.int .i64 x0, .int .i64 x1]), (2, .slice x2 x2n x2c)]).run Tryz.prog w = .ok (.agg #[.int .i64 x0, .int .i64 x1, .int .i64 0, .slice x2 x2n x2c]) w := by kernel_rfl
theorem bs74_4_0_1_2_3 (x0 : Int) (x1 : Int) (x2 : Int) (x3 : Int) : bsC Tryz.prog 74 4 [(0, .int .i64 x0), (1, .int .i64 x1), (2, .int .i64 x2), (3, .int .i64 x3)] = some (3, #[.int .i64 x0, .int .i64 x1, .int .i64 x2, .int .i64 x3]) := by kernel_rfl
theorem bs66_2_0_1 (x0 : Int) (x1 : Int) (x2 : Int) (x3 : Option Addr) (x3n : Nat) (x3c : Nat) (x6 : Int) (x7 : Int) (x8 : Int) (x9 : Option Addr) (x9n : Nat) (x9c : Nat) : bsC Tryz.prog 66 2 [(0, .agg #[.int .i64 x0, .int .i64 x1, .int .i64 x2, .slice x3 x3n x3c]), (1, .agg #[.int .i64 x6, .int .i64 x7, .int .i64 x8, .slice x9 x9n x9c])] = some (110, #[.int .i64 x0, .int .i64 x1, .int .i64 x2, .slice x3 x3n x3c, .int .i64 x6, .int .i64 x7, .int .i64 x8, .slice x9 x9n x9c]) := by kernel_rfl
theorem bl70_0_1 (x0 : Int) (x1 : Int) (x2 : Int) (w : World) : (Instr.build 70 #[(0, .agg #[.int .i64 x0, .int .i64 x1]), (1, .int .i64 x2)]).run Tryz.prog w = .ok (.agg #[.int .i64 x0, .int .i64 x1, .int .i64 x2]) w := by kernel_rfl
theorem bl72_0_1 (x0 : Option Addr) (x0n : Nat) (x0c : Nat) (x3 : Int) (x4 : Int) (x5 : Int) (w : World) : (Instr.build 72 #[(0, .slice x0 x0n x0c), (1, .agg #[.int .i64 x3, .int .i64 x4, .int .i64 x5])]).run Tryz.prog w = .ok (.agg #[.slice x0 x0n x0c, .int .i64 x3, .int .i64 x4, .int .i64 x5]) w := by kernel_rfl
theorem zc72 : zc Tryz.prog 72 = some #[.slice none 0 0, .int .i64 0, .int .i64 0, .int .i64 0] := by kernel_rfl
theorem bs74_6_0_1_2_3_4_5 (x0 : Int) (x1 : Int) (x2 : Int) (x3 : Int) (x4 : Int) (x5 : Int) : bsC Tryz.prog 74 6 [(0, .int .i64 x0), (1, .int .i64 x1), (2, .int .i64 x2), (3, .int .i64 x3), (4, .int .i64 x4), (5, .int .i64 x5)] = some (3, #[.int .i64 x0, .int .i64 x1, .int .i64 x2, .int .i64 x3, .int .i64 x4, .int .i64 x5]) := by kernel_rfl
theorem en65 : EnT Tryz.prog 65 := ento Tryz.func65
theorem bl76_0_1_2_3_4_5_6 (x0 : Option Addr) (x0n : Nat) (x0c : Nat) (x3 : Int) (x4 : Int) (x5 : Int) (x6 : Option Addr) (x6n : Nat) (x6c : Nat) (x9 : Option Addr) (x9n : Nat) (x9c : Nat) (x12 : Option Addr) (x12n : Nat) (x12c : Nat) (x15 : Option Addr) (x15n : Nat) (x15c : Nat) (x18 : Int) (x19 : Int) (w : World) : (Instr.build 76 #[(0, .agg #[.slice x0 x0n x0c, .int .i64 x3, .int .i64 x4, .int .i64 x5]), (1, .slice x6 x6n x6c), (2, .slice x9 x9n x9c), (3, .slice x12 x12n x12c), (4, .slice x15 x15n x15c), (5, .int .i64 x18), (6, .int .i64 x19)]).run Tryz.prog w = .ok (.agg #[.slice x0 x0n x0c, .int .i64 x3, .int .i64 x4, .int .i64 x5, .slice x6 x6n x6c, .slice x9 x9n x9c, .slice x12 x12n x12c, .slice x15 x15n x15c, .int .i64 x18, .int .i64 x19, .int .i64 0]) w := by kernel_rfl
theorem en33 : EnT Tryz.prog 33 := ento Tryz.func33
theorem en32 : EnT Tryz.prog 32 := ento Tryz.func32
theorem en34 : EnT Tryz.prog 34 := ento Tryz.func34
theorem en35 : EnT Tryz.prog 35 := ento Tryz.func35
theorem en36 : EnT Tryz.prog 36 := ento Tryz.func36
theorem en37 : EnT Tryz.prog 37 := ento Tryz.func37
theorem en38 : EnT Tryz.prog 38 := ento Tryz.func38
theorem en40 : EnT Tryz.prog 40 := ento Tryz.func40
theorem en39 : EnT Tryz.prog 39 := ento Tryz.func39
theorem en41 : EnT Tryz.prog 41 := ento Tryz.func41
theorem en42 : EnT Tryz.prog 42 := ento Tryz.func42
theorem en19 : EnT Tryz.prog 19 := ento Tryz.func19
theorem en13 : EnT Tryz.prog 13 := ento Tryz.func13
theorem eqs63 (x0 y0 : Int) (x1 y1 : Int) (x2 y2 : Int) : eqT Tryz.prog 63 (.agg #[.int .i64 x0, .int .i64 x1, .int .i64 x2]) (.agg #[.int .i64 y0, .int .i64 y1, .int .i64 y2]) ((x0 == y0) && (x1 == y1) && (x2 == y2)) := by
  intro w
  rw [show Op.maxDepth = (Op.maxDepth - 1) + 1 from rfl, run_equalIn_struct w _ 63 _ _ (by kernel_rfl) (by kernel_rfl)]
  have p0 : ∀ (x0 : Int) (x1 : Int) (x2 : Int), (Go.part 3 #[.int .i64 x0, .int .i64 x1, .int .i64 x2] 0).run Tryz.prog w = .ok (.int .i64 x0) w := by intro x0 x1 x2; kernel_rfl
  have p1 : ∀ (x0 : Int) (x1 : Int) (x2 : Int), (Go.part 3 #[.int .i64 x0, .int .i64 x1, .int .i64 x2] 1).run Tryz.prog w = .ok (.int .i64 x1) w := by intro x0 x1 x2; kernel_rfl
  have p2 : ∀ (x0 : Int) (x1 : Int) (x2 : Int), (Go.part 3 #[.int .i64 x0, .int .i64 x1, .int .i64 x2] 2).run Tryz.prog w = .ok (.int .i64 x2) w := by intro x0 x1 x2; kernel_rfl
  have q3 : ∀ x y : Int, (Op.equalIn (Op.maxDepth - 1) 3 (.int .i64 x) (.int .i64 y)).run Tryz.prog w = .ok (x == y) w := fun x y => run_equalIn_int w _ 3 .i64 .i64 x y Tryz.underlying3
  simp only [Program.fieldsOf, Tryz.underlying63, Op.eqFields, Sem.run_bind, p0, p1, p2, q3, Result.andThen, Sem.run_ite]
  cases h0 : (x0 == y0) <;> cases h1 : (x1 == y1) <;> cases h2 : (x2 == y2) <;> simp
theorem bl63_1 (x0 : Int) (w : World) : (Instr.build 63 #[(1, .int .i64 x0)]).run Tryz.prog w = .ok (.agg #[.int .i64 0, .int .i64 x0, .int .i64 0]) w := by kernel_rfl
theorem bl87_0_2 (x0 : Int) (x1 : Int) (w : World) : (Instr.build 87 #[(0, .int .i64 x0), (2, .int .i64 x1)]).run Tryz.prog w = .ok (.agg #[.int .i64 x0, .bool false, .int .i64 x1]) w := by kernel_rfl
theorem bs22_2_0_1 (x0 : Int) (x1 : Bool) (x2 : Int) (x3 : Int) (x4 : Bool) (x5 : Int) : bsC Tryz.prog 22 2 [(0, .agg #[.int .i64 x0, .bool x1, .int .i64 x2]), (1, .agg #[.int .i64 x3, .bool x4, .int .i64 x5])] = some (87, #[.int .i64 x0, .bool x1, .int .i64 x2, .int .i64 x3, .bool x4, .int .i64 x5]) := by kernel_rfl
theorem en15 : EnT Tryz.prog 15 := ento Tryz.func15
theorem en43 : EnT Tryz.prog 43 := ento Tryz.func43
theorem bs42_3_0_1_2 (x0 : Int) (x1 : Int) (x2 : Int) : bsC Tryz.prog 42 3 [(0, .int .i64 x0), (1, .int .i64 x1), (2, .int .i64 x2)] = some (39, #[.int .i64 x0, .int .i64 x1, .int .i64 x2]) := by kernel_rfl
theorem en21 : EnT Tryz.prog 21 := ento Tryz.func21
theorem en14 : EnT Tryz.prog 14 := ento Tryz.func14
end Go.Proofs.Ec
