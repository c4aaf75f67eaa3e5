import Derived.Test.YtobofnkmbpfoiaaGreatDoorProg
import Derived.Test.YtobofnkmbpfoiaaGreatDoorPQb
import Derived.Test.YtobofnkmbpfoiaaGreatDoorPQc
set_option linter.unusedVariables false
set_option linter.unusedSimpArgs false
set_option maxRecDepth 4000
namespace Go.Proofs.Ec
open Go.RowKit Go.Proofs.Sx
theorem en87 : EnT Tryz.prog 87 := ento Tryz.func87
theorem sz140 : szT Tryz.prog 140 = some 2 := by kernel_rfl
theorem ag140 : isAg Tryz.prog 140 = some true := by kernel_rfl
theorem en213 : EnT Tryz.prog 213 := ento Tryz.func213
theorem en191 : EnT Tryz.prog 191 := ento Tryz.func191
theorem fo140_0 : fo Tryz.prog 140 0 = some 0 := by kernel_rfl
theorem ag3 : isAg Tryz.prog 3 = some false := by kernel_rfl
theorem en194 : EnT Tryz.prog 194 := ento Tryz.func194
theorem fo140_1 : fo Tryz.prog 140 1 = some 1 := by kernel_rfl
theorem en192 : EnT Tryz.prog 192 := ento Tryz.func192
theorem en193 : EnT Tryz.prog 193 := ento Tryz.func193
theorem sz3 : szT Tryz.prog 3 = some 1 := by kernel_rfl
theorem mixed : Tryz.prog.follows .mixedOrders = true := by kernel_rfl
theorem zc43 : zc Tryz.prog 43 = some #[.int .i64 0, .int .i64 0] := by kernel_rfl
theorem en214 : EnT Tryz.prog 214 := ento Tryz.func214
theorem bl43_0_1 (x0 : Int) (x1 : Int) (w : World) : (Instr.build 43 #[(0, .int .i64 x0), (1, .int .i64 x1)]).run Tryz.prog w = .ok (.agg #[.int .i64 x0, .int .i64 x1]) w := by kernel_rfl
theorem sz43 : szT Tryz.prog 43 = some 2 := by kernel_rfl
theorem ag43 : isAg Tryz.prog 43 = some true := by kernel_rfl
theorem zc140 : zc Tryz.prog 140 = some #[.int .i64 0, .int .i64 0] := by kernel_rfl
theorem bs30_1_0 (x0 : Int) : bsC Tryz.prog 30 1 [(0, .int .i64 x0)] = some (3, #[.int .i64 x0]) := by kernel_rfl
theorem ap30 : apT Tryz.prog 30 = some (3, 1, 8) := by kernel_rfl
theorem en196 : EnT Tryz.prog 196 := ento Tryz.func196
theorem en195 : EnT Tryz.prog 195 := ento Tryz.func195
theorem fo43_0 : fo Tryz.prog 43 0 = some 0 := by kernel_rfl
theorem fo43_1 : fo Tryz.prog 43 1 = some 1 := by kernel_rfl
theorem en175 : EnT Tryz.prog 175 := ento Tryz.func175
theorem bl43_  (w : World) : (Instr.build 43 #[]).run Tryz.prog w = .ok (.agg #[.int .i64 0, .int .i64 0]) w := by kernel_rfl
theorem en176 : EnT Tryz.prog 176 := ento Tryz.func176
theorem en206 : EnT Tryz.prog 206 := ento Tryz.func206
theorem en207 : EnT Tryz.prog 207 := ento Tryz.func207
theorem en208 : EnT Tryz.prog 208 := ento Tryz.func208
theorem en209 : EnT Tryz.prog 209 := ento Tryz.func209
theorem sz46 : szT Tryz.prog 46 = some 4 := by kernel_rfl
theorem ag46 : isAg Tryz.prog 46 = some true := by kernel_rfl
theorem en168 : EnT Tryz.prog 168 := ento Tryz.func168
theorem en169 : EnT Tryz.prog 169 := ento Tryz.func169
theorem en137 : EnT Tryz.prog 137 := ento Tryz.func137
theorem fo24_0 : fo Tryz.prog 24 0 = some 0 := by kernel_rfl
theorem fo24_1 : fo Tryz.prog 24 1 = some 1 := by kernel_rfl
theorem fo46_0 : fo Tryz.prog 46 0 = some 0 := by kernel_rfl
theorem sz24 : szT Tryz.prog 24 = some 2 := by kernel_rfl
theorem ag24 : isAg Tryz.prog 24 = some true := by kernel_rfl
theorem en138 : EnT Tryz.prog 138 := ento Tryz.func138
theorem fo46_1 : fo Tryz.prog 46 1 = some 2 := by kernel_rfl
theorem en139 : EnT Tryz.prog 139 := ento Tryz.func139
theorem fo46_2 : fo Tryz.prog 46 2 = some 3 := by kernel_rfl
theorem ag30 : isAg Tryz.prog 30 = some false := by kernel_rfl
theorem en142 : EnT Tryz.prog 142 := ento Tryz.func142
theorem en143 : EnT Tryz.prog 143 := ento Tryz.func143
theorem fo28_0 : fo Tryz.prog 28 0 = some 0 := by kernel_rfl
theorem ag22 : isAg Tryz.prog 22 = some false := by kernel_rfl
theorem fo28_1 : fo Tryz.prog 28 1 = some 1 := by kernel_rfl
theorem fo26_0 : fo Tryz.prog 26 0 = some 0 := by kernel_rfl
theorem fo26_1 : fo Tryz.prog 26 1 = some 2 := by kernel_rfl
theorem en140 : EnT Tryz.prog 140 := ento Tryz.func140
theorem en141 : EnT Tryz.prog 141 := ento Tryz.func141
theorem en147 : EnT Tryz.prog 147 := ento Tryz.func147
theorem fo120_1 : fo Tryz.prog 120 1 = some 4 := by kernel_rfl
theorem fo120_0 : fo Tryz.prog 120 0 = some 0 := by kernel_rfl
theorem zc46 : zc Tryz.prog 46 = some #[.int .i64 0, .int .i64 0, .int .i64 0, .slice none 0 0] := by kernel_rfl
theorem sz120 : szT Tryz.prog 120 = some 5 := by kernel_rfl
theorem ag120 : isAg Tryz.prog 120 = some true := by kernel_rfl
theorem en165 : EnT Tryz.prog 165 := ento Tryz.func165
theorem bs30_2_0_1 (x0 : Int) (x1 : Int) : bsC Tryz.prog 30 2 [(0, .int .i64 x0), (1, .int .i64 x1)] = some (3, #[.int .i64 x0, .int .i64 x1]) := by kernel_rfl
theorem en164 : EnT Tryz.prog 164 := ento Tryz.func164
theorem en129 : EnT Tryz.prog 129 := ento Tryz.func129
theorem en128 : EnT Tryz.prog 128 := ento Tryz.func128
theorem bs30_3_0_1_2 (x0 : Int) (x1 : Int) (x2 : Int) : bsC Tryz.prog 30 3 [(0, .int .i64 x0), (1, .int .i64 x1), (2, .int .i64 x2)] = some (3, #[.int .i64 x0, .int .i64 x1, .int .i64 x2]) := by kernel_rfl
theorem en174 : EnT Tryz.prog 174 := ento Tryz.func174
theorem zc210 : zc Tryz.prog 210 = some #[.int .i64 0, .int .i64 0] := by kernel_rfl
theorem bl211_0_1 (x0 : Fn) (x0f : Array Value) (x0c : Array Value) (x3 : Fn) (x3f : Array Value) (x3c : Array Value) (w : World) : (Instr.build 211 #[(0, .func x0 x0f x0c), (1, .func x3 x3f x3c)]).run Tryz.prog w = .ok (.agg #[.func x0 x0f x0c, .func x3 x3f x3c]) w := by kernel_rfl
theorem ix211_0 (x0 : Fn) (x0f : Array Value) (x0c : Array Value) (x3 : Fn) (x3f : Array Value) (x3c : Array Value) (w : World) : (Instr.index 211 (.agg #[.func x0 x0f x0c, .func x3 x3f x3c]) (.int .i64 ((0 : Nat) : Int))).run Tryz.prog w = .ok (.func x0 x0f x0c) w := by kernel_rfl
theorem en190 : EnT Tryz.prog 190 := ento Tryz.func190
theorem ix211_1 (x0 : Fn) (x0f : Array Value) (x0c : Array Value) (x3 : Fn) (x3f : Array Value) (x3c : Array Value) (w : World) : (Instr.index 211 (.agg #[.func x0 x0f x0c, .func x3 x3f x3c]) (.int .i64 ((1 : Nat) : Int))).run Tryz.prog w = .ok (.func x3 x3f x3c) w := by kernel_rfl
theorem en148 : EnT Tryz.prog 148 := ento Tryz.func148
theorem sz28 : szT Tryz.prog 28 = some 4 := by kernel_rfl
theorem ag28 : isAg Tryz.prog 28 = some true := by kernel_rfl
theorem bl120_0_1 (x0 : Option Addr) (x0n : Nat) (x0c : Nat) (x3 : Int) (x4 : Int) (x5 : Int) (x6 : Int) (w : World) : (Instr.build 120 #[(0, .agg #[.slice x0 x0n x0c, .int .i64 x3, .int .i64 x4, .int .i64 x5]), (1, .int .i64 x6)]).run Tryz.prog w = .ok (.agg #[.slice x0 x0n x0c, .int .i64 x3, .int .i64 x4, .int .i64 x5, .int .i64 x6]) w := by kernel_rfl
theorem zc120 : zc Tryz.prog 120 = some #[.slice none 0 0, .int .i64 0, .int .i64 0, .int .i64 0, .int .i64 0] := by kernel_rfl
theorem ta175_172_200 (w : World) : (Instr.typeAssert (.iface 175 (.agg #[])) 172 200 true).run Tryz.prog w = .ok (.tuple #[.agg #[.int .i64 0, .int .i64 0], .bool false]) w := by kernel_rfl
theorem ta175_172_176 (w : World) : (Instr.typeAssert (.iface 175 (.agg #[])) 172 176 true).run Tryz.prog w = .ok (.tuple #[.agg #[], .bool false]) w := by kernel_rfl
theorem en173 : EnT Tryz.prog 173 := ento Tryz.func173
theorem en172 : EnT Tryz.prog 172 := ento Tryz.func172
theorem ta176_172_200 (w : World) : (Instr.typeAssert (.iface 176 (.agg #[])) 172 200 true).run Tryz.prog w = .ok (.tuple #[.agg #[.int .i64 0, .int .i64 0], .bool false]) w := by kernel_rfl
theorem ta176_172_176 (w : World) : (Instr.typeAssert (.iface 176 (.agg #[])) 172 176 true).run Tryz.prog w = .ok (.tuple #[.agg #[], .bool true]) w := by kernel_rfl
theorem zc176 : zc Tryz.prog 176 = some #[] := by kernel_rfl
theorem sz176 : szT Tryz.prog 176 = some 0 := by kernel_rfl
theorem en130 : EnT Tryz.prog 130 := ento Tryz.func130
theorem en88 : EnT Tryz.prog 88 := ento Tryz.func88
theorem en126 : EnT Tryz.prog 126 := ento Tryz.func126
theorem en127 : EnT Tryz.prog 127 := ento Tryz.func127
theorem en146 : EnT Tryz.prog 146 := ento Tryz.func146
theorem ag115 : isAg Tryz.prog 115 = some false := by kernel_rfl
theorem cm175_259 : ∀ w : World, (callMethod (.iface 175 (.agg #[])) "tellurion/sky.full" #[]).run Tryz.prog w = .ok (.enter 259 #[.agg #[]]) w := by intro w; kernel_rfl
theorem bl118_0_1 (x0 : Int) (x1 : Bool) (w : World) : (Instr.build 118 #[(0, .int .i64 x0), (1, .bool x1)]).run Tryz.prog w = .ok (.agg #[.int .i64 x0, .bool x1]) w := by kernel_rfl
theorem bs115_1_0 (x0 : Int) (x1 : Bool) : bsC Tryz.prog 115 1 [(0, .agg #[.int .i64 x0, .bool x1])] = some (118, #[.int .i64 x0, .bool x1]) := by kernel_rfl
theorem ap115 : apT Tryz.prog 115 = some (118, 2, 16) := by kernel_rfl
theorem sz115 : szT Tryz.prog 115 = some 1 := by kernel_rfl
theorem cm176_260 : ∀ w : World, (callMethod (.iface 176 (.agg #[])) "tellurion/sky.full" #[]).run Tryz.prog w = .ok (.enter 260 #[.agg #[]]) w := by intro w; kernel_rfl
theorem zc115 : zc Tryz.prog 115 = some #[.slice none 0 0] := by kernel_rfl
theorem en144 : EnT Tryz.prog 144 := ento Tryz.func144
theorem en170 : EnT Tryz.prog 170 := ento Tryz.func170
theorem bl175_  (w : World) : (Instr.build 175 #[]).run Tryz.prog w = .ok (.agg #[]) w := by kernel_rfl
theorem en145 : EnT Tryz.prog 145 := ento Tryz.func145
theorem bl176_  (w : World) : (Instr.build 176 #[]).run Tryz.prog w = .ok (.agg #[]) w := by kernel_rfl
theorem en89 : EnT Tryz.prog 89 := ento Tryz.func89
theorem en90 : EnT Tryz.prog 90 := ento Tryz.func90
theorem en91 : EnT Tryz.prog 91 := ento Tryz.func91
theorem sz118 : szT Tryz.prog 118 = some 2 := by kernel_rfl
theorem ag118 : isAg Tryz.prog 118 = some true := by kernel_rfl
theorem zc118 : zc Tryz.prog 118 = some #[.int .i64 0, .bool false] := by kernel_rfl
theorem fo118_1 : fo Tryz.prog 118 1 = some 1 := by kernel_rfl
theorem ag4 : isAg Tryz.prog 4 = some false := by kernel_rfl
theorem fo118_0 : fo Tryz.prog 118 0 = some 0 := by kernel_rfl
theorem en92 : EnT Tryz.prog 92 := ento Tryz.func92
theorem bl59_0_1_2 (x0 : Int) (x1 : Bool) (x2 : Int) (w : World) : (Instr.build 59 #[(0, .int .i64 x0), (1, .bool x1), (2, .int .i64 x2)]).run Tryz.prog w = .ok (.agg #[.int .i64 x0, .bool x1, .int .i64 x2]) w := by kernel_rfl
theorem bs50_1_0 (x0 : Int) (x1 : Bool) (x2 : Int) : bsC Tryz.prog 50 1 [(0, .agg #[.int .i64 x0, .bool x1, .int .i64 x2])] = some (59, #[.int .i64 x0, .bool x1, .int .i64 x2]) := by kernel_rfl
theorem ap50 : apT Tryz.prog 50 = some (59, 3, 24) := by kernel_rfl
theorem zc24 : zc Tryz.prog 24 = some #[.int .i64 0, .int .i64 0] := by kernel_rfl
theorem bl216_0 (x0 : Int) (w : World) : (Instr.build 216 #[(0, .int .i64 x0)]).run Tryz.prog w = .ok (.agg #[.int .i64 x0]) w := by kernel_rfl
theorem en179 : EnT Tryz.prog 179 := ento Tryz.func179
theorem tv216_20 (x0 : Int) (w : World) : (Instr.typeAssert (.iface 216 (.agg #[.int .i64 x0])) 20 216 true).run Tryz.prog w = .ok (.tuple #[.agg #[.int .i64 x0], .bool true]) w := by kernel_rfl
theorem zc216 : zc Tryz.prog 216 = some #[.int .i64 0] := by kernel_rfl
theorem sz216 : szT Tryz.prog 216 = some 1 := by kernel_rfl
theorem fo216_0 : fo Tryz.prog 216 0 = some 0 := by kernel_rfl
theorem ag40 : isAg Tryz.prog 40 = some false := by kernel_rfl
theorem sz40 : szT Tryz.prog 40 = some 1 := by kernel_rfl
theorem zc40 : zc Tryz.prog 40 = some #[.int .i64 0] := by kernel_rfl
theorem en178 : EnT Tryz.prog 178 := ento Tryz.func178
theorem en197 : EnT Tryz.prog 197 := ento Tryz.func197
theorem zc3 : zc Tryz.prog 3 = some #[.int .i64 0] := by kernel_rfl
theorem en177 : EnT Tryz.prog 177 := ento Tryz.func177
theorem en180 : EnT Tryz.prog 180 := ento Tryz.func180
theorem en131 : EnT Tryz.prog 131 := ento Tryz.func131
theorem fo100_0 : fo Tryz.prog 100 0 = some 0 := by kernel_rfl
theorem fo32_4 : fo Tryz.prog 32 4 = some 7 := by kernel_rfl
theorem fo100_1 : fo Tryz.prog 100 1 = some 11 := by kernel_rfl
theorem en187 : EnT Tryz.prog 187 := ento Tryz.func187
theorem fo32_0 : fo Tryz.prog 32 0 = some 0 := by kernel_rfl
theorem sz100 : szT Tryz.prog 100 = some 13 := by kernel_rfl
theorem ag100 : isAg Tryz.prog 100 = some true := by kernel_rfl
theorem fo32_1 : fo Tryz.prog 32 1 = some 4 := by kernel_rfl
theorem ag29 : isAg Tryz.prog 29 = some false := by kernel_rfl
theorem en163 : EnT Tryz.prog 163 := ento Tryz.func163
theorem fo32_2 : fo Tryz.prog 32 2 = some 5 := by kernel_rfl
theorem fo32_3 : fo Tryz.prog 32 3 = some 6 := by kernel_rfl
theorem zc39 : zc Tryz.prog 39 = some #[.int .i64 0, .int .i64 0, .int .i64 0] := by kernel_rfl
theorem fo100_2 : fo Tryz.prog 100 2 = some 12 := by kernel_rfl
theorem ag98 : isAg Tryz.prog 98 = some false := by kernel_rfl
theorem zv39 : ∀ w : World, (zeroValue 39).run Tryz.prog w = .ok (.agg #[.int .i64 0, .int .i64 0, .int .i64 0]) w := by intro w; kernel_rfl
theorem sz39 : szT Tryz.prog 39 = some 3 := by kernel_rfl
theorem ag39 : isAg Tryz.prog 39 = some true := by kernel_rfl
theorem zc154 : zc Tryz.prog 154 = some #[.int .i64 0, .int .i64 0, .int .i64 0] := by kernel_rfl
theorem bl155_0_1_2 (x0 : Fn) (x0f : Array Value) (x0c : Array Value) (x3 : Fn) (x3f : Array Value) (x3c : Array Value) (x6 : Fn) (x6f : Array Value) (x6c : Array Value) (w : World) : (Instr.build 155 #[(0, .func x0 x0f x0c), (1, .func x3 x3f x3c), (2, .func x6 x6f x6c)]).run Tryz.prog w = .ok (.agg #[.func x0 x0f x0c, .func x3 x3f x3c, .func x6 x6f x6c]) w := by kernel_rfl
theorem ix155_0 (x0 : Fn) (x0f : Array Value) (x0c : Array Value) (x3 : Fn) (x3f : Array Value) (x3c : Array Value) (x6 : Fn) (x6f : Array Value) (x6c : Array Value) (w : World) : (Instr.index 155 (.agg #[.func x0 x0f x0c, .func x3 x3f x3c, .func x6 x6f x6c]) (.int .i64 ((0 : Nat) : Int))).run Tryz.prog w = .ok (.func x0 x0f x0c) w := by kernel_rfl
theorem en123 : EnT Tryz.prog 123 := ento Tryz.func123
theorem ix155_1 (x0 : Fn) (x0f : Array Value) (x0c : Array Value) (x3 : Fn) (x3f : Array Value) (x3c : Array Value) (x6 : Fn) (x6f : Array Value) (x6c : Array Value) (w : World) : (Instr.index 155 (.agg #[.func x0 x0f x0c, .func x3 x3f x3c, .func x6 x6f x6c]) (.int .i64 ((1 : Nat) : Int))).run Tryz.prog w = .ok (.func x3 x3f x3c) w := by kernel_rfl
theorem en124 : EnT Tryz.prog 124 := ento Tryz.func124
theorem ix155_2 (x0 : Fn) (x0f : Array Value) (x0c : Array Value) (x3 : Fn) (x3f : Array Value) (x3c : Array Value) (x6 : Fn) (x6f : Array Value) (x6c : Array Value) (w : World) : (Instr.index 155 (.agg #[.func x0 x0f x0c, .func x3 x3f x3c, .func x6 x6f x6c]) (.int .i64 ((2 : Nat) : Int))).run Tryz.prog w = .ok (.func x6 x6f x6c) w := by kernel_rfl
theorem en125 : EnT Tryz.prog 125 := ento Tryz.func125
theorem bl39_0_1_2 (x0 : Int) (x1 : Int) (x2 : Int) (w : World) : (Instr.build 39 #[(0, .int .i64 x0), (1, .int .i64 x1), (2, .int .i64 x2)]).run Tryz.prog w = .ok (.agg #[.int .i64 x0, .int .i64 x1, .int .i64 x2]) w := by kernel_rfl
theorem en71 : EnT Tryz.prog 71 := ento Tryz.func71
theorem fo39_1 : fo Tryz.prog 39 1 = some 1 := by kernel_rfl
theorem fo39_0 : fo Tryz.prog 39 0 = some 0 := by kernel_rfl
theorem fo39_2 : fo Tryz.prog 39 2 = some 2 := by kernel_rfl
theorem bl161_  (w : World) : (Instr.build 161 #[]).run Tryz.prog w = .ok (.agg #[]) w := by kernel_rfl
theorem en149 : EnT Tryz.prog 149 := ento Tryz.func149
theorem en74 : EnT Tryz.prog 74 := ento Tryz.func74
theorem ta161_123_162 (w : World) : (Instr.typeAssert (.iface 161 (.agg #[])) 123 162 true).run Tryz.prog w = .ok (.tuple #[.agg #[], .bool false]) w := by kernel_rfl
theorem cm161_257 : ∀ w : World, (callMethod (.iface 161 (.agg #[])) "tellurion/eclipse.full" #[]).run Tryz.prog w = .ok (.enter 257 #[.agg #[]]) w := by intro w; kernel_rfl
theorem fo32_5 : fo Tryz.prog 32 5 = some 8 := by kernel_rfl
theorem bl162_  (w : World) : (Instr.build 162 #[]).run Tryz.prog w = .ok (.agg #[]) w := by kernel_rfl
theorem ta162_123_162 (w : World) : (Instr.typeAssert (.iface 162 (.agg #[])) 123 162 true).run Tryz.prog w = .ok (.tuple #[.agg #[], .bool true]) w := by kernel_rfl
theorem cm162_258 : ∀ w : World, (callMethod (.iface 162 (.agg #[])) "tellurion/eclipse.full" #[]).run Tryz.prog w = .ok (.enter 258 #[.agg #[]]) w := by intro w; kernel_rfl
theorem fo32_6 : fo Tryz.prog 32 6 = some 9 := by kernel_rfl
theorem bi163_161_162 (w : World) : (Instr.build 163 #[(0, .iface 161 (.agg #[])), (1, .iface 162 (.agg #[]))]).run Tryz.prog w = .ok (.agg #[.iface 161 (.agg #[]), .iface 162 (.agg #[])]) w := by kernel_rfl
theorem ix163_161_162_0 (w : World) : (Instr.index 163 (.agg #[.iface 161 (.agg #[]), .iface 162 (.agg #[])]) (.int .i64 ((0 : Nat) : Int))).run Tryz.prog w = .ok (.iface 161 (.agg #[])) w := by kernel_rfl
theorem en94 : EnT Tryz.prog 94 := ento Tryz.func94
theorem en95 : EnT Tryz.prog 95 := ento Tryz.func95
theorem fo32_7 : fo Tryz.prog 32 7 = some 10 := by kernel_rfl
theorem en96 : EnT Tryz.prog 96 := ento Tryz.func96
theorem ix163_161_162_1 (w : World) : (Instr.index 163 (.agg #[.iface 161 (.agg #[]), .iface 162 (.agg #[])]) (.int .i64 ((1 : Nat) : Int))).run Tryz.prog w = .ok (.iface 162 (.agg #[])) w := by kernel_rfl
theorem zc4 : zc Tryz.prog 4 = some #[.bool false] := by kernel_rfl
theorem fo59_0 : fo Tryz.prog 59 0 = some 0 := by kernel_rfl
theorem en77 : EnT Tryz.prog 77 := ento Tryz.func77
theorem en133 : EnT Tryz.prog 133 := ento Tryz.func133
theorem zc59 : zc Tryz.prog 59 = some #[.int .i64 0, .bool false, .int .i64 0] := by kernel_rfl
theorem sz59 : szT Tryz.prog 59 = some 3 := by kernel_rfl
theorem fo59_1 : fo Tryz.prog 59 1 = some 1 := by kernel_rfl
theorem sz4 : szT Tryz.prog 4 = some 1 := by kernel_rfl
theorem en43 : EnT Tryz.prog 43 := ento Tryz.func43
theorem bs178_3_0_1_2 (x0 : Option Addr) (x0n : Nat) (x0c : Nat) (x3 : Option Addr) (x3n : Nat) (x3c : Nat) (x6 : Option Addr) (x6n : Nat) (x6c : Nat) : bsC Tryz.prog 178 3 [(0, .slice x0 x0n x0c), (1, .slice x3 x3n x3c), (2, .slice x6 x6n x6c)] = some (29, #[.slice x0 x0n x0c, .slice x3 x3n x3c, .slice x6 x6n x6c]) := by kernel_rfl
theorem sz29 : szT Tryz.prog 29 = some 1 := by kernel_rfl
theorem en151 : EnT Tryz.prog 151 := ento Tryz.func151
theorem en152 : EnT Tryz.prog 152 := ento Tryz.func152
theorem en122 : EnT Tryz.prog 122 := ento Tryz.func122
theorem en97 : EnT Tryz.prog 97 := ento Tryz.func97
theorem sz32 : szT Tryz.prog 32 = some 11 := by kernel_rfl
theorem ag32 : isAg Tryz.prog 32 = some true := by kernel_rfl
theorem en108 : EnT Tryz.prog 108 := ento Tryz.func108
theorem zc100 : zc Tryz.prog 100 = some #[.slice none 0 0, .int .i64 0, .int .i64 0, .int .i64 0, .slice none 0 0, .slice none 0 0, .slice none 0 0, .slice none 0 0, .int .i64 0, .int .i64 0, .int .i64 0, .slice none 0 0, .map none] := by kernel_rfl
theorem bl100_0_1_2 (x0 : Option Addr) (x0n : Nat) (x0c : Nat) (x3 : Int) (x4 : Int) (x5 : Int) (x6 : Option Addr) (x6n : Nat) (x6c : Nat) (x9 : Option Addr) (x9n : Nat) (x9c : Nat) (x12 : Option Addr) (x12n : Nat) (x12c : Nat) (x15 : Option Addr) (x15n : Nat) (x15c : Nat) (x18 : Int) (x19 : Int) (x20 : Int) (x21 : Option Addr) (x21n : Nat) (x21c : Nat) (x24 : Option Nat) (w : World) : (Instr.build 100 #[(0, .agg #[.slice x0 x0n x0c, .int .i64 x3, .int .i64 x4, .int .i64 x5, .slice x6 x6n x6c, .slice x9 x9n x9c, .slice x12 x12n x12c, .slice x15 x15n x15c, .int .i64 x18, .int .i64 x19, .int .i64 x20]), (1, .slice x21 x21n x21c), (2, .map x24)]).run Tryz.prog w = .ok (.agg #[.slice x0 x0n x0c, .int .i64 x3, .int .i64 x4, .int .i64 x5, .slice x6 x6n x6c, .slice x9 x9n x9c, .slice x12 x12n x12c, .slice x15 x15n x15c, .int .i64 x18, .int .i64 x19, .int .i64 x20, .slice x21 x21n x21c, .map x24]) w := by kernel_rfl
theorem en70 : EnT Tryz.prog 70 := ento Tryz.func70
theorem en69 : EnT Tryz.prog 69 := ento Tryz.func69
theorem bl39_  (w : World) : (Instr.build 39 #[]).run Tryz.prog w = .ok (.agg #[.int .i64 0, .int .i64 0, .int .i64 0]) w := by kernel_rfl
theorem en72 : EnT Tryz.prog 72 := ento Tryz.func72
theorem en73 : EnT Tryz.prog 73 := ento Tryz.func73
theorem en86 : EnT Tryz.prog 86 := ento Tryz.func86
theorem ag59 : isAg Tryz.prog 59 = some true := by kernel_rfl
theorem en135 : EnT Tryz.prog 135 := ento Tryz.func135
theorem en76 : EnT Tryz.prog 76 := ento Tryz.func76
theorem zc50 : zc Tryz.prog 50 = some #[.slice none 0 0] := by kernel_rfl
theorem ag50 : isAg Tryz.prog 50 = some false := by kernel_rfl
theorem sz50 : szT Tryz.prog 50 = some 1 := by kernel_rfl
theorem en83 : EnT Tryz.prog 83 := ento Tryz.func83
theorem en82 : EnT Tryz.prog 82 := ento Tryz.func82
theorem en60 : EnT Tryz.prog 60 := ento Tryz.func60
theorem en113 : EnT Tryz.prog 113 := ento Tryz.func113
theorem en198 : EnT Tryz.prog 198 := ento Tryz.func198
theorem en181 : EnT Tryz.prog 181 := ento Tryz.func181
theorem en153 : EnT Tryz.prog 153 := ento Tryz.func153
theorem en132 : EnT Tryz.prog 132 := ento Tryz.func132
theorem en75 : EnT Tryz.prog 75 := ento Tryz.func75
theorem en107 : EnT Tryz.prog 107 := ento Tryz.func107
theorem en112 : EnT Tryz.prog 112 := ento Tryz.func112
theorem en79 : EnT Tryz.prog 79 := ento Tryz.func79
theorem en114 : EnT Tryz.prog 114 := ento Tryz.func114
theorem en61 : EnT Tryz.prog 61 := ento Tryz.func61
theorem en56 : EnT Tryz.prog 56 := ento Tryz.func56
theorem en57 : EnT Tryz.prog 57 := ento Tryz.func57
theorem en58 : EnT Tryz.prog 58 := ento Tryz.func58
theorem en50 : EnT Tryz.prog 50 := ento Tryz.func50
theorem en59 : EnT Tryz.prog 59 := ento Tryz.func59
theorem en22 : EnT Tryz.prog 22 := ento Tryz.func22
theorem zc32 : zc Tryz.prog 32 = some #[.slice none 0 0, .int .i64 0, .int .i64 0, .int .i64 0, .slice none 0 0, .slice none 0 0, .slice none 0 0, .slice none 0 0, .int .i64 0, .int .i64 0, .int .i64 0] := by kernel_rfl
theorem fo59_2 : fo Tryz.prog 59 2 = some 2 := by kernel_rfl
theorem sz96 : szT Tryz.prog 96 = some 1 := by kernel_rfl
theorem ag96 : isAg Tryz.prog 96 = some false := by kernel_rfl
theorem eqs59 (x0 y0 : Int) (x1 y1 : Bool) (x2 y2 : Int) : eqT Tryz.prog 59 (.agg #[.int .i64 x0, .bool x1, .int .i64 x2]) (.agg #[.int .i64 y0, .bool y1, .int .i64 y2]) ((x0 == y0) && (x1 == y1) && (x2 == y2)) := by
  intro w
  rw [show Op.maxDepth = (Op.maxDepth - 1) + 1 from rfl, run_equalIn_struct w _ 59 _ _ (by kernel_rfl) (by kernel_rfl)]
  have p0 : ∀ (x0 : Int) (x1 : Bool) (x2 : Int), (Go.part 3 #[.int .i64 x0, .bool x1, .int .i64 x2] 0).run Tryz.prog w = .ok (.int .i64 x0) w := by intro x0 x1 x2; kernel_rfl
  have p1 : ∀ (x0 : Int) (x1 : Bool) (x2 : Int), (Go.part 4 #[.int .i64 x0, .bool x1, .int .i64 x2] 1).run Tryz.prog w = .ok (.bool x1) w := by intro x0 x1 x2; kernel_rfl
  have p2 : ∀ (x0 : Int) (x1 : Bool) (x2 : Int), (Go.part 3 #[.int .i64 x0, .bool x1, .int .i64 x2] 2).run Tryz.prog w = .ok (.int .i64 x2) w := by intro x0 x1 x2; kernel_rfl
  have q3 : ∀ x y : Int, (Op.equalIn (Op.maxDepth - 1) 3 (.int .i64 x) (.int .i64 y)).run Tryz.prog w = .ok (x == y) w := fun x y => run_equalIn_int w _ 3 .i64 .i64 x y Tryz.underlying3
  have q4 : ∀ x y : Bool, (Op.equalIn (Op.maxDepth - 1) 4 (.bool x) (.bool y)).run Tryz.prog w = .ok (x == y) w := fun x y => run_equalIn_bool' w _ 4 x y Tryz.underlying4
  simp only [Program.fieldsOf, Tryz.underlying59, Op.eqFields, Sem.run_bind, p0, p1, p2, q3, q4, Result.andThen, Sem.run_ite]
  cases h0 : (x0 == y0) <;> cases h1 : (x1 == y1) <;> cases h2 : (x2 == y2) <;> simp
theorem bs127_1_0 (x0 : Option Addr) (x0n : Nat) (x0c : Nat) : bsC Tryz.prog 127 1 [(0, .slice x0 x0n x0c)] = some (30, #[.slice x0 x0n x0c]) := by kernel_rfl
theorem sz30 : szT Tryz.prog 30 = some 1 := by kernel_rfl
theorem ap127 : apT Tryz.prog 127 = some (30, 1, 24) := by kernel_rfl
theorem bl140_0_1 (x0 : Int) (x1 : Int) (w : World) : (Instr.build 140 #[(0, .int .i64 x0), (1, .int .i64 x1)]).run Tryz.prog w = .ok (.agg #[.int .i64 x0, .int .i64 x1]) w := by kernel_rfl
theorem bs29_1_0 (x0 : Int) (x1 : Int) : bsC Tryz.prog 29 1 [(0, .agg #[.int .i64 x0, .int .i64 x1])] = some (140, #[.int .i64 x0, .int .i64 x1]) := by kernel_rfl
theorem ap29 : apT Tryz.prog 29 = some (140, 2, 16) := by kernel_rfl
theorem bl145_0_2 (x0 : Int) (x1 : Int) (w : World) : (Instr.build 145 #[(0, .int .i64 x0), (2, .int .i64 x1)]).run Tryz.prog w = .ok (.agg #[.int .i64 x0, .int .i64 0, .int .i64 x1]) w := by kernel_rfl
theorem bl145_0_1_2 (x0 : Int) (x1 : Int) (x2 : Int) (w : World) : (Instr.build 145 #[(0, .int .i64 x0), (1, .int .i64 x1), (2, .int .i64 x2)]).run Tryz.prog w = .ok (.agg #[.int .i64 x0, .int .i64 x1, .int .i64 x2]) w := by kernel_rfl
theorem bs92_3_0_1_2 (x0 : Int) (x1 : Int) (x2 : Int) (x3 : Int) (x4 : Int) (x5 : Int) (x6 : Int) (x7 : Int) (x8 : Int) : bsC Tryz.prog 92 3 [(0, .agg #[.int .i64 x0, .int .i64 x1, .int .i64 x2]), (1, .agg #[.int .i64 x3, .int .i64 x4, .int .i64 x5]), (2, .agg #[.int .i64 x6, .int .i64 x7, .int .i64 x8])] = some (145, #[.int .i64 x0, .int .i64 x1, .int .i64 x2, .int .i64 x3, .int .i64 x4, .int .i64 x5, .int .i64 x6, .int .i64 x7, .int .i64 x8]) := by kernel_rfl
theorem bl24_0_1 (x0 : Int) (x1 : Int) (w : World) : (Instr.build 24 #[(0, .int .i64 x0), (1, .int .i64 x1)]).run Tryz.prog w = .ok (.agg #[.int .i64 x0, .int .i64 x1]) w := by kernel_rfl
theorem bl46_0_2 (x0 : Int) (x1 : Int) (x2 : Option Addr) (x2n : Nat) (x2c : Nat) (w : World) : (Instr.build 46 #[(0, .agg #[.int .i64 x0, .int .i64 x1]), (2, .slice x2 x2n x2c)]).run Tryz.prog w = .ok (.agg #[.int .i64 x0, .int .i64 x1, .int .i64 0, .slice x2 x2n x2c]) w := by kernel_rfl
theorem bs30_4_0_1_2_3 (x0 : Int) (x1 : Int) (x2 : Int) (x3 : Int) : bsC Tryz.prog 30 4 [(0, .int .i64 x0), (1, .int .i64 x1), (2, .int .i64 x2), (3, .int .i64 x3)] = some (3, #[.int .i64 x0, .int .i64 x1, .int .i64 x2, .int .i64 x3]) := by kernel_rfl
theorem bs22_2_0_1 (x0 : Int) (x1 : Int) (x2 : Int) (x3 : Option Addr) (x3n : Nat) (x3c : Nat) (x6 : Int) (x7 : Int) (x8 : Int) (x9 : Option Addr) (x9n : Nat) (x9c : Nat) : bsC Tryz.prog 22 2 [(0, .agg #[.int .i64 x0, .int .i64 x1, .int .i64 x2, .slice x3 x3n x3c]), (1, .agg #[.int .i64 x6, .int .i64 x7, .int .i64 x8, .slice x9 x9n x9c])] = some (46, #[.int .i64 x0, .int .i64 x1, .int .i64 x2, .slice x3 x3n x3c, .int .i64 x6, .int .i64 x7, .int .i64 x8, .slice x9 x9n x9c]) := by kernel_rfl
theorem bl26_0_1 (x0 : Int) (x1 : Int) (x2 : Int) (w : World) : (Instr.build 26 #[(0, .agg #[.int .i64 x0, .int .i64 x1]), (1, .int .i64 x2)]).run Tryz.prog w = .ok (.agg #[.int .i64 x0, .int .i64 x1, .int .i64 x2]) w := by kernel_rfl
theorem bl28_0_1 (x0 : Option Addr) (x0n : Nat) (x0c : Nat) (x3 : Int) (x4 : Int) (x5 : Int) (w : World) : (Instr.build 28 #[(0, .slice x0 x0n x0c), (1, .agg #[.int .i64 x3, .int .i64 x4, .int .i64 x5])]).run Tryz.prog w = .ok (.agg #[.slice x0 x0n x0c, .int .i64 x3, .int .i64 x4, .int .i64 x5]) w := by kernel_rfl
theorem zc28 : zc Tryz.prog 28 = some #[.slice none 0 0, .int .i64 0, .int .i64 0, .int .i64 0] := by kernel_rfl
theorem bs30_6_0_1_2_3_4_5 (x0 : Int) (x1 : Int) (x2 : Int) (x3 : Int) (x4 : Int) (x5 : Int) : bsC Tryz.prog 30 6 [(0, .int .i64 x0), (1, .int .i64 x1), (2, .int .i64 x2), (3, .int .i64 x3), (4, .int .i64 x4), (5, .int .i64 x5)] = some (3, #[.int .i64 x0, .int .i64 x1, .int .i64 x2, .int .i64 x3, .int .i64 x4, .int .i64 x5]) := by kernel_rfl
theorem en115 : EnT Tryz.prog 115 := ento Tryz.func115
theorem bl32_0_1_2_3_4_5_6 (x0 : Option Addr) (x0n : Nat) (x0c : Nat) (x3 : Int) (x4 : Int) (x5 : Int) (x6 : Option Addr) (x6n : Nat) (x6c : Nat) (x9 : Option Addr) (x9n : Nat) (x9c : Nat) (x12 : Option Addr) (x12n : Nat) (x12c : Nat) (x15 : Option Addr) (x15n : Nat) (x15c : Nat) (x18 : Int) (x19 : Int) (w : World) : (Instr.build 32 #[(0, .agg #[.slice x0 x0n x0c, .int .i64 x3, .int .i64 x4, .int .i64 x5]), (1, .slice x6 x6n x6c), (2, .slice x9 x9n x9c), (3, .slice x12 x12n x12c), (4, .slice x15 x15n x15c), (5, .int .i64 x18), (6, .int .i64 x19)]).run Tryz.prog w = .ok (.agg #[.slice x0 x0n x0c, .int .i64 x3, .int .i64 x4, .int .i64 x5, .slice x6 x6n x6c, .slice x9 x9n x9c, .slice x12 x12n x12c, .slice x15 x15n x15c, .int .i64 x18, .int .i64 x19, .int .i64 0]) w := by kernel_rfl
theorem en93 : EnT Tryz.prog 93 := ento Tryz.func93
theorem en150 : EnT Tryz.prog 150 := ento Tryz.func150
theorem en103 : EnT Tryz.prog 103 := ento Tryz.func103
theorem en104 : EnT Tryz.prog 104 := ento Tryz.func104
theorem en102 : EnT Tryz.prog 102 := ento Tryz.func102
theorem en101 : EnT Tryz.prog 101 := ento Tryz.func101
theorem ag127 : isAg Tryz.prog 127 = some false := by kernel_rfl
theorem sz127 : szT Tryz.prog 127 = some 1 := by kernel_rfl
theorem ag128 : isAg Tryz.prog 128 = some false := by kernel_rfl
theorem en99 : EnT Tryz.prog 99 := ento Tryz.func99
theorem en98 : EnT Tryz.prog 98 := ento Tryz.func98
theorem zc127 : zc Tryz.prog 127 = some #[.slice none 0 0] := by kernel_rfl
theorem zc128 : zc Tryz.prog 128 = some #[.nilFunc] := by kernel_rfl
theorem sz128 : szT Tryz.prog 128 = some 1 := by kernel_rfl
theorem en100 : EnT Tryz.prog 100 := ento Tryz.func100
theorem fo145_0 : fo Tryz.prog 145 0 = some 0 := by kernel_rfl
theorem fo145_1 : fo Tryz.prog 145 1 = some 1 := by kernel_rfl
theorem en182 : EnT Tryz.prog 182 := ento Tryz.func182
theorem fo145_2 : fo Tryz.prog 145 2 = some 2 := by kernel_rfl
theorem bl185_0 (x0 : Int) (w : World) : (Instr.build 185 #[(0, .int .i64 x0)]).run Tryz.prog w = .ok (.agg #[.int .i64 x0]) w := by kernel_rfl
theorem sz145 : szT Tryz.prog 145 = some 3 := by kernel_rfl
theorem ag145 : isAg Tryz.prog 145 = some true := by kernel_rfl
theorem zc145 : zc Tryz.prog 145 = some #[.int .i64 0, .int .i64 0, .int .i64 0] := by kernel_rfl
theorem tv185_20 (x0 : Int) (w : World) : (Instr.typeAssert (.iface 185 (.agg #[.int .i64 x0])) 20 185 true).run Tryz.prog w = .ok (.tuple #[.agg #[.int .i64 x0], .bool true]) w := by kernel_rfl
theorem zc185 : zc Tryz.prog 185 = some #[.int .i64 0] := by kernel_rfl
theorem sz185 : szT Tryz.prog 185 = some 1 := by kernel_rfl
theorem en156 : EnT Tryz.prog 156 := ento Tryz.func156
theorem en155 : EnT Tryz.prog 155 := ento Tryz.func155
theorem en157 : EnT Tryz.prog 157 := ento Tryz.func157
theorem en116 : EnT Tryz.prog 116 := ento Tryz.func116
theorem en117 : EnT Tryz.prog 117 := ento Tryz.func117
theorem bs89_1_0 (x0 : Int) : bsC Tryz.prog 89 1 [(0, .int .i64 x0)] = some (96, #[.int .i64 x0]) := by kernel_rfl
theorem ap89 : apT Tryz.prog 89 = some (96, 1, 8) := by kernel_rfl
theorem zc205 : zc Tryz.prog 205 = some #[.string ByteArray.empty, .string ByteArray.empty] := by kernel_rfl
theorem bl205_0_1 (x0 : ByteArray) (x1 : ByteArray) (w : World) : (Instr.build 205 #[(0, .string x0), (1, .string x1)]).run Tryz.prog w = .ok (.agg #[.string x0, .string x1]) w := by kernel_rfl
theorem sz205 : szT Tryz.prog 205 = some 2 := by kernel_rfl
theorem ag205 : isAg Tryz.prog 205 = some true := by kernel_rfl
theorem en184 : EnT Tryz.prog 184 := ento Tryz.func184
theorem ix205_1 (x0 : ByteArray) (x1 : ByteArray) (w : World) : (Instr.index 205 (.agg #[.string x0, .string x1]) (.int .i64 ((1 : Nat) : Int))).run Tryz.prog w = .ok (.string x1) w := by kernel_rfl
theorem ix205_0 (x0 : ByteArray) (x1 : ByteArray) (w : World) : (Instr.index 205 (.agg #[.string x0, .string x1]) (.int .i64 ((0 : Nat) : Int))).run Tryz.prog w = .ok (.string x0) w := by kernel_rfl
theorem en185 : EnT Tryz.prog 185 := ento Tryz.func185
theorem bs151_1_0 (x0 : ByteArray) : bsC Tryz.prog 151 1 [(0, .string x0)] = some (9, #[.string x0]) := by kernel_rfl
theorem en160 : EnT Tryz.prog 160 := ento Tryz.func160
theorem ap151 : apT Tryz.prog 151 = some (9, 1, 16) := by kernel_rfl
theorem sz9 : szT Tryz.prog 9 = some 1 := by kernel_rfl
theorem ag9 : isAg Tryz.prog 9 = some false := by kernel_rfl
theorem en186 : EnT Tryz.prog 186 := ento Tryz.func186
theorem bl147_0 (x0 : ByteArray) (w : World) : (Instr.build 147 #[(0, .string x0)]).run Tryz.prog w = .ok (.agg #[.string x0]) w := by kernel_rfl
theorem en159 : EnT Tryz.prog 159 := ento Tryz.func159
theorem en158 : EnT Tryz.prog 158 := ento Tryz.func158
theorem en161 : EnT Tryz.prog 161 := ento Tryz.func161
theorem en162 : EnT Tryz.prog 162 := ento Tryz.func162
theorem tv147_20 (x0 : ByteArray) (w : World) : (Instr.typeAssert (.iface 147 (.agg #[.string x0])) 20 147 true).run Tryz.prog w = .ok (.tuple #[.agg #[.string x0], .bool true]) w := by kernel_rfl
theorem zc147 : zc Tryz.prog 147 = some #[.string ByteArray.empty] := by kernel_rfl
theorem sz147 : szT Tryz.prog 147 = some 1 := by kernel_rfl
theorem en119 : EnT Tryz.prog 119 := ento Tryz.func119
theorem en118 : EnT Tryz.prog 118 := ento Tryz.func118
theorem en120 : EnT Tryz.prog 120 := ento Tryz.func120
theorem bs192_1_0 (x0 : Int) : bsC Tryz.prog 192 1 [(0, .int .u8 x0)] = some (5, #[.int .u8 x0]) := by kernel_rfl
theorem en121 : EnT Tryz.prog 121 := ento Tryz.func121
theorem en62 : EnT Tryz.prog 62 := ento Tryz.func62
theorem en29 : EnT Tryz.prog 29 := ento Tryz.func29
theorem en21 : EnT Tryz.prog 21 := ento Tryz.func21
theorem en25 : EnT Tryz.prog 25 := ento Tryz.func25
theorem en39 : EnT Tryz.prog 39 := ento Tryz.func39
theorem en34 : EnT Tryz.prog 34 := ento Tryz.func34
theorem en35 : EnT Tryz.prog 35 := ento Tryz.func35
theorem en63 : EnT Tryz.prog 63 := ento Tryz.func63
theorem en45 : EnT Tryz.prog 45 := ento Tryz.func45
theorem en46 : EnT Tryz.prog 46 := ento Tryz.func46
theorem en65 : EnT Tryz.prog 65 := ento Tryz.func65
theorem en64 : EnT Tryz.prog 64 := ento Tryz.func64
theorem en66 : EnT Tryz.prog 66 := ento Tryz.func66
theorem eqs39 (x0 y0 : Int) (x1 y1 : Int) (x2 y2 : Int) : eqT Tryz.prog 39 (.agg #[.int .i64 x0, .int .i64 x1, .int .i64 x2]) (.agg #[.int .i64 y0, .int .i64 y1, .int .i64 y2]) ((x0 == y0) && (x1 == y1) && (x2 == y2)) := by
  intro w
  rw [show Op.maxDepth = (Op.maxDepth - 1) + 1 from rfl, run_equalIn_struct w _ 39 _ _ (by kernel_rfl) (by kernel_rfl)]
  have p0 : ∀ (x0 : Int) (x1 : Int) (x2 : Int), (Go.part 3 #[.int .i64 x0, .int .i64 x1, .int .i64 x2] 0).run Tryz.prog w = .ok (.int .i64 x0) w := by intro x0 x1 x2; kernel_rfl
  have p1 : ∀ (x0 : Int) (x1 : Int) (x2 : Int), (Go.part 3 #[.int .i64 x0, .int .i64 x1, .int .i64 x2] 1).run Tryz.prog w = .ok (.int .i64 x1) w := by intro x0 x1 x2; kernel_rfl
  have p2 : ∀ (x0 : Int) (x1 : Int) (x2 : Int), (Go.part 3 #[.int .i64 x0, .int .i64 x1, .int .i64 x2] 2).run Tryz.prog w = .ok (.int .i64 x2) w := by intro x0 x1 x2; kernel_rfl
  have q3 : ∀ x y : Int, (Op.equalIn (Op.maxDepth - 1) 3 (.int .i64 x) (.int .i64 y)).run Tryz.prog w = .ok (x == y) w := fun x y => run_equalIn_int w _ 3 .i64 .i64 x y Tryz.underlying3
  simp only [Program.fieldsOf, Tryz.underlying39, Op.eqFields, Sem.run_bind, p0, p1, p2, q3, Result.andThen, Sem.run_ite]
  cases h0 : (x0 == y0) <;> cases h1 : (x1 == y1) <;> cases h2 : (x2 == y2) <;> simp
theorem bl39_1 (x0 : Int) (w : World) : (Instr.build 39 #[(1, .int .i64 x0)]).run Tryz.prog w = .ok (.agg #[.int .i64 0, .int .i64 x0, .int .i64 0]) w := by kernel_rfl
theorem bl59_0_2 (x0 : Int) (x1 : Int) (w : World) : (Instr.build 59 #[(0, .int .i64 x0), (2, .int .i64 x1)]).run Tryz.prog w = .ok (.agg #[.int .i64 x0, .bool false, .int .i64 x1]) w := by kernel_rfl
theorem bs50_2_0_1 (x0 : Int) (x1 : Bool) (x2 : Int) (x3 : Int) (x4 : Bool) (x5 : Int) : bsC Tryz.prog 50 2 [(0, .agg #[.int .i64 x0, .bool x1, .int .i64 x2]), (1, .agg #[.int .i64 x3, .bool x4, .int .i64 x5])] = some (59, #[.int .i64 x0, .bool x1, .int .i64 x2, .int .i64 x3, .bool x4, .int .i64 x5]) := by kernel_rfl
theorem en27 : EnT Tryz.prog 27 := ento Tryz.func27
theorem en49 : EnT Tryz.prog 49 := ento Tryz.func49
theorem bs89_3_0_1_2 (x0 : Int) (x1 : Int) (x2 : Int) : bsC Tryz.prog 89 3 [(0, .int .i64 x0), (1, .int .i64 x1), (2, .int .i64 x2)] = some (96, #[.int .i64 x0, .int .i64 x1, .int .i64 x2]) := by kernel_rfl
theorem en67 : EnT Tryz.prog 67 := ento Tryz.func67
theorem en68 : EnT Tryz.prog 68 := ento Tryz.func68
theorem en15 : EnT Tryz.prog 15 := ento Tryz.func15
theorem en20 : EnT Tryz.prog 20 := ento Tryz.func20
theorem en16 : EnT Tryz.prog 16 := ento Tryz.func16
theorem en17 : EnT Tryz.prog 17 := ento Tryz.func17
theorem en18 : EnT Tryz.prog 18 := ento Tryz.func18
theorem en19 : EnT Tryz.prog 19 := ento Tryz.func19
theorem en23 : EnT Tryz.prog 23 := ento Tryz.func23
theorem en24 : EnT Tryz.prog 24 := ento Tryz.func24
end Go.Proofs.Ec
