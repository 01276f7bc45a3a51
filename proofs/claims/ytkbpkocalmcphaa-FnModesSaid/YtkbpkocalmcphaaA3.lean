/- More steps; facts of the program's types; first contracts. -/
import Derived.Test.YtkbpkocalmcphaaA2
import Derived.Test.YtkbpkocalmcphaaProg
/- What is known of the types of the program. Written by wip/tools/typefacts.py. -/
namespace Go.Vc
open Go Go.Proofs
theorem mixes : Try.prog.follows .mixedOrders = true := by kernel_rfl
theorem tof1 : tof Try.prog 1 = some { size := 1, bytes := 8, zero := [.u], shape := .other } := by kernel_rfl
theorem tof2 : tof Try.prog 2 = some { size := 1, bytes := 8, zero := [.i .i64 0], shape := .int .i64 } := by kernel_rfl
theorem tof3 : tof Try.prog 3 = some { size := 1, bytes := 8, zero := [.i .i64 0], shape := .int .i64 } := by kernel_rfl
theorem tof4 : tof Try.prog 4 = some { size := 1, bytes := 1, zero := [.b false], shape := .bool } := by kernel_rfl
theorem tof5 : tof Try.prog 5 = some { size := 1, bytes := 1, zero := [.i .u8 0], shape := .int .u8 } := by kernel_rfl
theorem tof6 : tof Try.prog 6 = some { size := 1, bytes := 1, zero := [.i .u8 0], shape := .int .u8 } := by kernel_rfl
theorem tof7 : tof Try.prog 7 = some { size := 4, bytes := 24, zero := [.i .i64 0, .i .i64 0, .b false, .i .u8 0], shape := .struct [(0, 2), (1, 3), (2, 4), (3, 6)], places := [(0, 1), (1, 1), (2, 1), (3, 1)] } := by kernel_rfl
theorem tof8 : tof Try.prog 8 = some { size := 4, bytes := 24, zero := [.i .i64 0, .i .i64 0, .b false, .i .u8 0], shape := .struct [(0, 2), (1, 3), (2, 4), (3, 6)], places := [(0, 1), (1, 1), (2, 1), (3, 1)] } := by kernel_rfl
theorem tof9 : tof Try.prog 9 = some { size := 1, bytes := 16, zero := [.s ⟨#[]⟩], shape := .string } := by kernel_rfl
theorem tof10 : tof Try.prog 10 = some { size := 1, bytes := 16, zero := [.s ⟨#[]⟩], shape := .string } := by kernel_rfl
theorem tof11 : tof Try.prog 11 = some { size := 1, bytes := 16, zero := [.s ⟨#[]⟩], shape := .string } := by kernel_rfl
theorem tof12 : tof Try.prog 12 = some { size := 1, bytes := 8, zero := [.i .u64 0], shape := .int .u64 } := by kernel_rfl
theorem tof13 : tof Try.prog 13 = some { size := 2, bytes := 24, zero := [.s ⟨#[]⟩, .i .u64 0], shape := .struct [(0, 9), (1, 12)], places := [(0, 1), (1, 1)] } := by kernel_rfl
theorem tof14 : tof Try.prog 14 = some { size := 2, bytes := 24, zero := [.s ⟨#[]⟩, .i .u64 0], shape := .struct [(0, 9), (1, 12)], places := [(0, 1), (1, 1)] } := by kernel_rfl
theorem tof15 : tof Try.prog 15 = some { size := 1, bytes := 8, zero := [.np], shape := .ptr 280 } := by kernel_rfl
theorem tof16 : tof Try.prog 16 = some { size := 1, bytes := 8, zero := [.np], shape := .ptr 283 } := by kernel_rfl
theorem tof17 : tof Try.prog 17 = some { size := 1, bytes := 8, zero := [.np], shape := .ptr 292 } := by kernel_rfl
theorem tof18 : tof Try.prog 18 = some { size := 1, bytes := 8, zero := [.np], shape := .struct [(0, 17)], places := [(0, 1)] } := by kernel_rfl
theorem tof19 : tof Try.prog 19 = some { size := 1, bytes := 8, zero := [.np], shape := .struct [(0, 17)], places := [(0, 1)] } := by kernel_rfl
theorem tof20 : tof Try.prog 20 = some { size := 1, bytes := 16, zero := [.u], shape := .other } := by kernel_rfl
theorem tof21 : tof Try.prog 21 = some { size := 1, bytes := 4, zero := [.i .i32 0], shape := .int .i32 } := by kernel_rfl
theorem tof22 : tof Try.prog 22 = some { size := 1, bytes := 24, zero := [.ns], shape := .slice 5 } := by kernel_rfl
theorem tof23 : tof Try.prog 23 = some { size := 1, bytes := 8, zero := [.u], shape := .other } := by kernel_rfl
theorem tof24 : tof Try.prog 24 = some { size := 1, bytes := 24, zero := [.ns], shape := .slice 49 } := by kernel_rfl
theorem tof25 : tof Try.prog 25 = some { size := 1, bytes := 8, zero := [.u], shape := .other } := by kernel_rfl
theorem tof26 : tof Try.prog 26 = some { size := 1, bytes := 24, zero := [.ns], shape := .slice 32 } := by kernel_rfl
theorem tof27 : tof Try.prog 27 = some { size := 1, bytes := 8, zero := [.u], shape := .other } := by kernel_rfl
theorem tof28 : tof Try.prog 28 = some { size := 1, bytes := 8, zero := [.u], shape := .other } := by kernel_rfl
theorem tof29 : tof Try.prog 29 = some { size := 1, bytes := 8, zero := [.c .f32 0 0], shape := .complex .f32 } := by kernel_rfl
theorem tof30 : tof Try.prog 30 = some { size := 1, bytes := 4, zero := [.f .f32 0], shape := .float .f32 } := by kernel_rfl
theorem tof31 : tof Try.prog 31 = some { size := 3, bytes := 16, zero := [.c .f32 0 0, .f .f32 0, .f .f32 0], shape := .struct [(0, 29), (1, 30), (2, 30)], places := [(0, 1), (1, 1), (2, 1)] } := by kernel_rfl
theorem tof32 : tof Try.prog 32 = some { size := 3, bytes := 16, zero := [.c .f32 0 0, .f .f32 0, .f .f32 0], shape := .struct [(0, 29), (1, 30), (2, 30)], places := [(0, 1), (1, 1), (2, 1)] } := by kernel_rfl
theorem tof34 : tof Try.prog 34 = some { size := 1, bytes := 8, zero := [.u], shape := .other } := by kernel_rfl
theorem tof36 : tof Try.prog 36 = some { size := 1, bytes := 8, zero := [.u], shape := .other } := by kernel_rfl
theorem tof37 : tof Try.prog 37 = some { size := 1, bytes := 8, zero := [.u], shape := .other } := by kernel_rfl
theorem tof38 : tof Try.prog 38 = some { size := 1, bytes := 8, zero := [.u], shape := .other } := by kernel_rfl
theorem tof39 : tof Try.prog 39 = some { size := 1, bytes := 8, zero := [.u], shape := .other } := by kernel_rfl
theorem tof40 : tof Try.prog 40 = some { size := 1, bytes := 24, zero := [.ns], shape := .slice 30 } := by kernel_rfl
theorem tof42 : tof Try.prog 42 = some { size := 1, bytes := 8, zero := [.u], shape := .other } := by kernel_rfl
theorem tof43 : tof Try.prog 43 = some { size := 1, bytes := 8, zero := [.u], shape := .other } := by kernel_rfl
theorem tof45 : tof Try.prog 45 = some { size := 1, bytes := 8, zero := [.u], shape := .other } := by kernel_rfl
theorem tof46 : tof Try.prog 46 = some { size := 1, bytes := 8, zero := [.f .f64 0], shape := .float .f64 } := by kernel_rfl
theorem tof47 : tof Try.prog 47 = some { size := 1, bytes := 8, zero := [.u], shape := .other } := by kernel_rfl
theorem tof48 : tof Try.prog 48 = some { size := 3, bytes := 16, zero := [.i .i64 0, .f .f32 0, .f .f32 0], shape := .struct [(0, 2), (1, 30), (2, 30)], places := [(0, 1), (1, 1), (2, 1)] } := by kernel_rfl
theorem tof49 : tof Try.prog 49 = some { size := 3, bytes := 16, zero := [.i .i64 0, .f .f32 0, .f .f32 0], shape := .struct [(0, 2), (1, 30), (2, 30)], places := [(0, 1), (1, 1), (2, 1)] } := by kernel_rfl
theorem tof50 : tof Try.prog 50 = some { size := 1, bytes := 24, zero := [.ns], shape := .slice 65 } := by kernel_rfl
theorem tof51 : tof Try.prog 51 = some { size := 1, bytes := 24, zero := [.ns], shape := .struct [(0, 50)], places := [(0, 1)] } := by kernel_rfl
theorem tof52 : tof Try.prog 52 = some { size := 1, bytes := 24, zero := [.ns], shape := .struct [(0, 50)], places := [(0, 1)] } := by kernel_rfl
theorem tof53 : tof Try.prog 53 = some { size := 1, bytes := 8, zero := [.u], shape := .other } := by kernel_rfl
theorem tof55 : tof Try.prog 55 = some { size := 1, bytes := 8, zero := [.u], shape := .other } := by kernel_rfl
theorem tof57 : tof Try.prog 57 = some { size := 1, bytes := 8, zero := [.u], shape := .other } := by kernel_rfl
theorem tof58 : tof Try.prog 58 = some { size := 1, bytes := 8, zero := [.u], shape := .other } := by kernel_rfl
theorem tof59 : tof Try.prog 59 = some { size := 1, bytes := 8, zero := [.u], shape := .other } := by kernel_rfl
theorem tof60 : tof Try.prog 60 = some { size := 1, bytes := 8, zero := [.u], shape := .other } := by kernel_rfl
theorem tof61 : tof Try.prog 61 = some { size := 2, bytes := 16, zero := [.i .i64 0, .i .i64 0], shape := .struct [(0, 2), (1, 2)], places := [(0, 1), (1, 1)] } := by kernel_rfl
theorem tof62 : tof Try.prog 62 = some { size := 2, bytes := 16, zero := [.i .i64 0, .i .i64 0], shape := .struct [(0, 2), (1, 2)], places := [(0, 1), (1, 1)] } := by kernel_rfl
theorem tof63 : tof Try.prog 63 = some { size := 1, bytes := 24, zero := [.ns], shape := .slice 82 } := by kernel_rfl
theorem tof64 : tof Try.prog 64 = some { size := 5, bytes := 48, zero := [.i .i64 0, .i .i64 0, .ns, .f .f32 0, .f .f32 0], shape := .struct [(0, 62), (2, 63), (3, 30), (4, 30)], places := [(0, 2), (2, 1), (3, 1), (4, 1)] } := by kernel_rfl
theorem tof65 : tof Try.prog 65 = some { size := 5, bytes := 48, zero := [.i .i64 0, .i .i64 0, .ns, .f .f32 0, .f .f32 0], shape := .struct [(0, 62), (2, 63), (3, 30), (4, 30)], places := [(0, 2), (2, 1), (3, 1), (4, 1)] } := by kernel_rfl
theorem tof67 : tof Try.prog 67 = some { size := 1, bytes := 8, zero := [.u], shape := .other } := by kernel_rfl
theorem tof68 : tof Try.prog 68 = some { size := 1, bytes := 8, zero := [.u], shape := .other } := by kernel_rfl
theorem tof70 : tof Try.prog 70 = some { size := 1, bytes := 8, zero := [.u], shape := .other } := by kernel_rfl
theorem tof71 : tof Try.prog 71 = some { size := 1, bytes := 8, zero := [.u], shape := .other } := by kernel_rfl
theorem tof72 : tof Try.prog 72 = some { size := 1, bytes := 8, zero := [.u], shape := .other } := by kernel_rfl
theorem tof73 : tof Try.prog 73 = some { size := 1, bytes := 8, zero := [.u], shape := .other } := by kernel_rfl
theorem tof74 : tof Try.prog 74 = some { size := 1, bytes := 8, zero := [.u], shape := .other } := by kernel_rfl
theorem tof75 : tof Try.prog 75 = some { size := 1, bytes := 8, zero := [.u], shape := .other } := by kernel_rfl
theorem tof76 : tof Try.prog 76 = some { size := 1, bytes := 8, zero := [.u], shape := .other } := by kernel_rfl
theorem tof77 : tof Try.prog 77 = some { size := 1, bytes := 8, zero := [.u], shape := .other } := by kernel_rfl
theorem tof79 : tof Try.prog 79 = some { size := 1, bytes := 8, zero := [.u], shape := .other } := by kernel_rfl
theorem tof80 : tof Try.prog 80 = some { size := 1, bytes := 8, zero := [.u], shape := .other } := by kernel_rfl
theorem tof81 : tof Try.prog 81 = some { size := 4, bytes := 24, zero := [.c .f32 0 0, .c .f32 0 0, .f .f32 0, .f .f32 0], shape := .struct [(0, 29), (1, 29), (2, 30), (3, 30)], places := [(0, 1), (1, 1), (2, 1), (3, 1)] } := by kernel_rfl
theorem tof82 : tof Try.prog 82 = some { size := 4, bytes := 24, zero := [.c .f32 0 0, .c .f32 0 0, .f .f32 0, .f .f32 0], shape := .struct [(0, 29), (1, 29), (2, 30), (3, 30)], places := [(0, 1), (1, 1), (2, 1), (3, 1)] } := by kernel_rfl
theorem tof83 : tof Try.prog 83 = some { size := 1, bytes := 8, zero := [.u], shape := .other } := by kernel_rfl
theorem tof85 : tof Try.prog 85 = some { size := 1, bytes := 8, zero := [.u], shape := .other } := by kernel_rfl
theorem tof86 : tof Try.prog 86 = some { size := 1, bytes := 8, zero := [.u], shape := .other } := by kernel_rfl
theorem tof87 : tof Try.prog 87 = some { size := 1, bytes := 8, zero := [.u], shape := .other } := by kernel_rfl
theorem tof89 : tof Try.prog 89 = some { size := 1, bytes := 8, zero := [.u], shape := .other } := by kernel_rfl
theorem tof90 : tof Try.prog 90 = some { size := 1, bytes := 8, zero := [.u], shape := .other } := by kernel_rfl
theorem tof91 : tof Try.prog 91 = some { size := 1, bytes := 8, zero := [.u], shape := .other } := by kernel_rfl
theorem tof93 : tof Try.prog 93 = some { size := 1, bytes := 8, zero := [.u], shape := .other } := by kernel_rfl
theorem tof94 : tof Try.prog 94 = some { size := 1, bytes := 8, zero := [.u], shape := .other } := by kernel_rfl
theorem tof95 : tof Try.prog 95 = some { size := 1, bytes := 8, zero := [.u], shape := .other } := by kernel_rfl
theorem tof96 : tof Try.prog 96 = some { size := 1, bytes := 8, zero := [.u], shape := .other } := by kernel_rfl
theorem tof97 : tof Try.prog 97 = some { size := 1, bytes := 8, zero := [.u], shape := .other } := by kernel_rfl
theorem tof98 : tof Try.prog 98 = some { size := 1, bytes := 8, zero := [.u], shape := .other } := by kernel_rfl
theorem tof99 : tof Try.prog 99 = some { size := 1, bytes := 8, zero := [.u], shape := .other } := by kernel_rfl
theorem tof100 : tof Try.prog 100 = some { size := 1, bytes := 8, zero := [.u], shape := .other } := by kernel_rfl
theorem tof101 : tof Try.prog 101 = some { size := 1, bytes := 8, zero := [.u], shape := .other } := by kernel_rfl
theorem tof102 : tof Try.prog 102 = some { size := 1, bytes := 8, zero := [.u], shape := .other } := by kernel_rfl
theorem tof103 : tof Try.prog 103 = some { size := 1, bytes := 24, zero := [.ns], shape := .slice 29 } := by kernel_rfl
theorem tof105 : tof Try.prog 105 = some { size := 1, bytes := 8, zero := [.u], shape := .other } := by kernel_rfl
theorem tof106 : tof Try.prog 106 = some { size := 1, bytes := 8, zero := [.u], shape := .other } := by kernel_rfl
theorem tof107 : tof Try.prog 107 = some { size := 1, bytes := 8, zero := [.u], shape := .other } := by kernel_rfl
theorem tof109 : tof Try.prog 109 = some { size := 1, bytes := 8, zero := [.u], shape := .other } := by kernel_rfl
theorem tof110 : tof Try.prog 110 = some { size := 1, bytes := 8, zero := [.u], shape := .other } := by kernel_rfl
theorem tof111 : tof Try.prog 111 = some { size := 1, bytes := 8, zero := [.u], shape := .other } := by kernel_rfl
theorem tof112 : tof Try.prog 112 = some { size := 1, bytes := 8, zero := [.u], shape := .other } := by kernel_rfl
theorem tof113 : tof Try.prog 113 = some { size := 1, bytes := 8, zero := [.u], shape := .other } := by kernel_rfl
theorem tof115 : tof Try.prog 115 = some { size := 1, bytes := 8, zero := [.u], shape := .other } := by kernel_rfl
theorem tof116 : tof Try.prog 116 = some { size := 1, bytes := 24, zero := [.ns], shape := .slice 2 } := by kernel_rfl
theorem tof118 : tof Try.prog 118 = some { size := 1, bytes := 8, zero := [.u], shape := .other } := by kernel_rfl
theorem tof119 : tof Try.prog 119 = some { size := 1, bytes := 8, zero := [.u], shape := .other } := by kernel_rfl
theorem tof120 : tof Try.prog 120 = some { size := 1, bytes := 8, zero := [.u], shape := .other } := by kernel_rfl
theorem tof121 : tof Try.prog 121 = some { size := 1, bytes := 8, zero := [.u], shape := .other } := by kernel_rfl
theorem tof123 : tof Try.prog 123 = some { size := 1, bytes := 8, zero := [.u], shape := .other } := by kernel_rfl
theorem tof124 : tof Try.prog 124 = some { size := 1, bytes := 8, zero := [.u], shape := .other } := by kernel_rfl
theorem tof125 : tof Try.prog 125 = some { size := 1, bytes := 8, zero := [.np], shape := .ptr 200 } := by kernel_rfl
theorem tof126 : tof Try.prog 126 = some { size := 1, bytes := 8, zero := [.u], shape := .other } := by kernel_rfl
theorem tof127 : tof Try.prog 127 = some { size := 1, bytes := 8, zero := [.u], shape := .other } := by kernel_rfl
theorem tof128 : tof Try.prog 128 = some { size := 1, bytes := 8, zero := [.u], shape := .other } := by kernel_rfl
theorem tof129 : tof Try.prog 129 = some { size := 1, bytes := 8, zero := [.u], shape := .other } := by kernel_rfl
theorem tof131 : tof Try.prog 131 = some { size := 1, bytes := 8, zero := [.u], shape := .other } := by kernel_rfl
theorem tof132 : tof Try.prog 132 = some { size := 1, bytes := 8, zero := [.u], shape := .other } := by kernel_rfl
theorem tof133 : tof Try.prog 133 = some { size := 1, bytes := 8, zero := [.u], shape := .other } := by kernel_rfl
theorem tof134 : tof Try.prog 134 = some { size := 1, bytes := 8, zero := [.u], shape := .other } := by kernel_rfl
theorem tof135 : tof Try.prog 135 = some { size := 1, bytes := 8, zero := [.u], shape := .other } := by kernel_rfl
theorem tof136 : tof Try.prog 136 = some { size := 1, bytes := 8, zero := [.u], shape := .other } := by kernel_rfl
theorem tof137 : tof Try.prog 137 = some { size := 1, bytes := 8, zero := [.u], shape := .other } := by kernel_rfl
theorem tof138 : tof Try.prog 138 = some { size := 1, bytes := 8, zero := [.u], shape := .other } := by kernel_rfl
theorem tof139 : tof Try.prog 139 = some { size := 1, bytes := 8, zero := [.u], shape := .other } := by kernel_rfl
theorem tof140 : tof Try.prog 140 = some { size := 1, bytes := 8, zero := [.u], shape := .other } := by kernel_rfl
theorem tof141 : tof Try.prog 141 = some { size := 1, bytes := 8, zero := [.u], shape := .other } := by kernel_rfl
theorem tof143 : tof Try.prog 143 = some { size := 1, bytes := 8, zero := [.u], shape := .other } := by kernel_rfl
theorem tof144 : tof Try.prog 144 = some { size := 1, bytes := 8, zero := [.u], shape := .other } := by kernel_rfl
theorem tof145 : tof Try.prog 145 = some { size := 1, bytes := 8, zero := [.u], shape := .other } := by kernel_rfl
theorem tof147 : tof Try.prog 147 = some { size := 1, bytes := 8, zero := [.u], shape := .other } := by kernel_rfl
theorem tof148 : tof Try.prog 148 = some { size := 1, bytes := 8, zero := [.u], shape := .other } := by kernel_rfl
theorem tof149 : tof Try.prog 149 = some { size := 1, bytes := 8, zero := [.u], shape := .other } := by kernel_rfl
theorem tof150 : tof Try.prog 150 = some { size := 1, bytes := 8, zero := [.u], shape := .other } := by kernel_rfl
theorem tof151 : tof Try.prog 151 = some { size := 1, bytes := 8, zero := [.u], shape := .other } := by kernel_rfl
theorem tof152 : tof Try.prog 152 = some { size := 1, bytes := 8, zero := [.u], shape := .other } := by kernel_rfl
theorem tof153 : tof Try.prog 153 = some { size := 1, bytes := 8, zero := [.u], shape := .other } := by kernel_rfl
theorem tof154 : tof Try.prog 154 = some { size := 1, bytes := 8, zero := [.u], shape := .other } := by kernel_rfl
theorem tof155 : tof Try.prog 155 = some { size := 1, bytes := 8, zero := [.u], shape := .other } := by kernel_rfl
theorem tof156 : tof Try.prog 156 = some { size := 1, bytes := 8, zero := [.u], shape := .other } := by kernel_rfl
theorem tof157 : tof Try.prog 157 = some { size := 1, bytes := 8, zero := [.u], shape := .other } := by kernel_rfl
theorem tof158 : tof Try.prog 158 = some { size := 1, bytes := 8, zero := [.u], shape := .other } := by kernel_rfl
theorem tof159 : tof Try.prog 159 = some { size := 1, bytes := 8, zero := [.u], shape := .other } := by kernel_rfl
theorem tof160 : tof Try.prog 160 = some { size := 1, bytes := 8, zero := [.u], shape := .other } := by kernel_rfl
theorem tof161 : tof Try.prog 161 = some { size := 1, bytes := 8, zero := [.u], shape := .other } := by kernel_rfl
theorem tof162 : tof Try.prog 162 = some { size := 1, bytes := 8, zero := [.u], shape := .other } := by kernel_rfl
theorem tof163 : tof Try.prog 163 = some { size := 1, bytes := 8, zero := [.u], shape := .other } := by kernel_rfl
theorem tof164 : tof Try.prog 164 = some { size := 1, bytes := 8, zero := [.u], shape := .other } := by kernel_rfl
theorem tof165 : tof Try.prog 165 = some { size := 1, bytes := 8, zero := [.u], shape := .other } := by kernel_rfl
theorem tof166 : tof Try.prog 166 = some { size := 1, bytes := 8, zero := [.u], shape := .other } := by kernel_rfl
theorem tof167 : tof Try.prog 167 = some { size := 1, bytes := 8, zero := [.u], shape := .other } := by kernel_rfl
theorem tof168 : tof Try.prog 168 = some { size := 1, bytes := 8, zero := [.u], shape := .other } := by kernel_rfl
theorem tof169 : tof Try.prog 169 = some { size := 1, bytes := 8, zero := [.u], shape := .other } := by kernel_rfl
theorem tof170 : tof Try.prog 170 = some { size := 1, bytes := 8, zero := [.u], shape := .other } := by kernel_rfl
theorem tof171 : tof Try.prog 171 = some { size := 1, bytes := 8, zero := [.u], shape := .other } := by kernel_rfl
theorem tof172 : tof Try.prog 172 = some { size := 1, bytes := 8, zero := [.u], shape := .other } := by kernel_rfl
theorem tof173 : tof Try.prog 173 = some { size := 1, bytes := 8, zero := [.u], shape := .other } := by kernel_rfl
theorem tof174 : tof Try.prog 174 = some { size := 1, bytes := 8, zero := [.u], shape := .other } := by kernel_rfl
theorem tof175 : tof Try.prog 175 = some { size := 1, bytes := 8, zero := [.u], shape := .other } := by kernel_rfl
theorem tof176 : tof Try.prog 176 = some { size := 1, bytes := 8, zero := [.u], shape := .other } := by kernel_rfl
theorem tof177 : tof Try.prog 177 = some { size := 1, bytes := 8, zero := [.u], shape := .other } := by kernel_rfl
theorem tof178 : tof Try.prog 178 = some { size := 1, bytes := 8, zero := [.u], shape := .other } := by kernel_rfl
theorem tof179 : tof Try.prog 179 = some { size := 1, bytes := 8, zero := [.u], shape := .other } := by kernel_rfl
theorem tof180 : tof Try.prog 180 = some { size := 1, bytes := 8, zero := [.u], shape := .other } := by kernel_rfl
theorem tof181 : tof Try.prog 181 = some { size := 1, bytes := 8, zero := [.u], shape := .other } := by kernel_rfl
theorem tof182 : tof Try.prog 182 = some { size := 1, bytes := 8, zero := [.u], shape := .other } := by kernel_rfl
theorem tof183 : tof Try.prog 183 = some { size := 1, bytes := 8, zero := [.u], shape := .other } := by kernel_rfl
theorem tof184 : tof Try.prog 184 = some { size := 1, bytes := 8, zero := [.u], shape := .other } := by kernel_rfl
theorem tof185 : tof Try.prog 185 = some { size := 1, bytes := 8, zero := [.u], shape := .other } := by kernel_rfl
theorem tof186 : tof Try.prog 186 = some { size := 1, bytes := 8, zero := [.u], shape := .other } := by kernel_rfl
theorem tof187 : tof Try.prog 187 = some { size := 1, bytes := 8, zero := [.u], shape := .other } := by kernel_rfl
theorem tof188 : tof Try.prog 188 = some { size := 1, bytes := 8, zero := [.u], shape := .other } := by kernel_rfl
theorem tof189 : tof Try.prog 189 = some { size := 1, bytes := 8, zero := [.u], shape := .other } := by kernel_rfl
theorem tof190 : tof Try.prog 190 = some { size := 1, bytes := 8, zero := [.np], shape := .ptr 49 } := by kernel_rfl
theorem tof191 : tof Try.prog 191 = some { size := 1, bytes := 8, zero := [.u], shape := .other } := by kernel_rfl
theorem tof193 : tof Try.prog 193 = some { size := 1, bytes := 8, zero := [.u], shape := .other } := by kernel_rfl
theorem tof194 : tof Try.prog 194 = some { size := 1, bytes := 8, zero := [.u], shape := .other } := by kernel_rfl
theorem tof196 : tof Try.prog 196 = some { size := 1, bytes := 8, zero := [.u], shape := .other } := by kernel_rfl
theorem tof197 : tof Try.prog 197 = some { size := 1, bytes := 8, zero := [.u], shape := .other } := by kernel_rfl
theorem tof198 : tof Try.prog 198 = some { size := 1, bytes := 8, zero := [.i .u64 0], shape := .int .u64 } := by kernel_rfl
theorem tof199 : tof Try.prog 199 = some { size := 3, bytes := 40, zero := [.ns, .i .i64 0, .i .u64 0], shape := .struct [(0, 22), (1, 3), (2, 198)], places := [(0, 1), (1, 1), (2, 1)] } := by kernel_rfl
theorem tof200 : tof Try.prog 200 = some { size := 3, bytes := 40, zero := [.ns, .i .i64 0, .i .u64 0], shape := .struct [(0, 22), (1, 3), (2, 198)], places := [(0, 1), (1, 1), (2, 1)] } := by kernel_rfl
theorem tof201 : tof Try.prog 201 = some { size := 1, bytes := 8, zero := [.u], shape := .other } := by kernel_rfl
theorem tof203 : tof Try.prog 203 = some { size := 1, bytes := 8, zero := [.u], shape := .other } := by kernel_rfl
theorem tof204 : tof Try.prog 204 = some { size := 1, bytes := 8, zero := [.u], shape := .other } := by kernel_rfl
theorem tof205 : tof Try.prog 205 = some { size := 1, bytes := 8, zero := [.u], shape := .other } := by kernel_rfl
theorem tof206 : tof Try.prog 206 = some { size := 1, bytes := 8, zero := [.u], shape := .other } := by kernel_rfl
theorem tof207 : tof Try.prog 207 = some { size := 1, bytes := 8, zero := [.u], shape := .other } := by kernel_rfl
theorem tof208 : tof Try.prog 208 = some { size := 1, bytes := 8, zero := [.u], shape := .other } := by kernel_rfl
theorem tof209 : tof Try.prog 209 = some { size := 1, bytes := 8, zero := [.np], shape := .ptr 65 } := by kernel_rfl
theorem tof210 : tof Try.prog 210 = some { size := 1, bytes := 8, zero := [.u], shape := .other } := by kernel_rfl
theorem tof211 : tof Try.prog 211 = some { size := 1, bytes := 8, zero := [.u], shape := .other } := by kernel_rfl
theorem tof212 : tof Try.prog 212 = some { size := 1, bytes := 8, zero := [.u], shape := .other } := by kernel_rfl
theorem tof213 : tof Try.prog 213 = some { size := 1, bytes := 8, zero := [.i .u64 0], shape := .int .u64 } := by kernel_rfl
theorem tof214 : tof Try.prog 214 = some { size := 1, bytes := 8, zero := [.u], shape := .other } := by kernel_rfl
theorem tof215 : tof Try.prog 215 = some { size := 1, bytes := 8, zero := [.u], shape := .other } := by kernel_rfl
theorem tof216 : tof Try.prog 216 = some { size := 1, bytes := 8, zero := [.u], shape := .other } := by kernel_rfl
theorem tof217 : tof Try.prog 217 = some { size := 1, bytes := 8, zero := [.u], shape := .other } := by kernel_rfl
theorem tof218 : tof Try.prog 218 = some { size := 1, bytes := 8, zero := [.u], shape := .other } := by kernel_rfl
theorem tof219 : tof Try.prog 219 = some { size := 1, bytes := 8, zero := [.u], shape := .other } := by kernel_rfl
theorem tof220 : tof Try.prog 220 = some { size := 1, bytes := 8, zero := [.u], shape := .other } := by kernel_rfl
theorem tof221 : tof Try.prog 221 = some { size := 1, bytes := 8, zero := [.u], shape := .other } := by kernel_rfl
theorem tof222 : tof Try.prog 222 = some { size := 1, bytes := 8, zero := [.u], shape := .other } := by kernel_rfl
theorem tof223 : tof Try.prog 223 = some { size := 1, bytes := 8, zero := [.u], shape := .other } := by kernel_rfl
theorem tof224 : tof Try.prog 224 = some { size := 1, bytes := 8, zero := [.u], shape := .other } := by kernel_rfl
theorem tof225 : tof Try.prog 225 = some { size := 1, bytes := 8, zero := [.u], shape := .other } := by kernel_rfl
theorem tof226 : tof Try.prog 226 = some { size := 1, bytes := 8, zero := [.u], shape := .other } := by kernel_rfl
theorem tof227 : tof Try.prog 227 = some { size := 1, bytes := 8, zero := [.u], shape := .other } := by kernel_rfl
theorem tof228 : tof Try.prog 228 = some { size := 1, bytes := 8, zero := [.u], shape := .other } := by kernel_rfl
theorem tof229 : tof Try.prog 229 = some { size := 1, bytes := 8, zero := [.u], shape := .other } := by kernel_rfl
theorem tof230 : tof Try.prog 230 = some { size := 1, bytes := 8, zero := [.u], shape := .other } := by kernel_rfl
theorem tof231 : tof Try.prog 231 = some { size := 1, bytes := 8, zero := [.u], shape := .other } := by kernel_rfl
theorem tof232 : tof Try.prog 232 = some { size := 1, bytes := 8, zero := [.u], shape := .other } := by kernel_rfl
theorem tof233 : tof Try.prog 233 = some { size := 4, bytes := 32, zero := [.i .i64 0, .i .i64 0, .i .i64 0, .i .i64 0], shape := .array 4 2 } := by kernel_rfl
theorem tof234 : tof Try.prog 234 = some { size := 4, bytes := 16, zero := [.f .f32 0, .f .f32 0, .f .f32 0, .f .f32 0], shape := .array 4 30 } := by kernel_rfl
theorem tof236 : tof Try.prog 236 = some { size := 1, bytes := 8, zero := [.u], shape := .other } := by kernel_rfl
theorem tof237 : tof Try.prog 237 = some { size := 1, bytes := 8, zero := [.u], shape := .other } := by kernel_rfl
theorem tof238 : tof Try.prog 238 = some { size := 1, bytes := 8, zero := [.u], shape := .other } := by kernel_rfl
theorem tof240 : tof Try.prog 240 = some { size := 1, bytes := 8, zero := [.u], shape := .other } := by kernel_rfl
theorem tof241 : tof Try.prog 241 = some { size := 1, bytes := 8, zero := [.u], shape := .other } := by kernel_rfl
theorem tof242 : tof Try.prog 242 = some { size := 1, bytes := 8, zero := [.u], shape := .other } := by kernel_rfl
theorem tof243 : tof Try.prog 243 = some { size := 1, bytes := 8, zero := [.u], shape := .other } := by kernel_rfl
theorem tof244 : tof Try.prog 244 = some { size := 1, bytes := 8, zero := [.u], shape := .other } := by kernel_rfl
theorem tof245 : tof Try.prog 245 = some { size := 1, bytes := 8, zero := [.u], shape := .other } := by kernel_rfl
theorem tof246 : tof Try.prog 246 = some { size := 1, bytes := 8, zero := [.u], shape := .other } := by kernel_rfl
theorem tof247 : tof Try.prog 247 = some { size := 1, bytes := 8, zero := [.u], shape := .other } := by kernel_rfl
theorem tof248 : tof Try.prog 248 = some { size := 1, bytes := 8, zero := [.u], shape := .other } := by kernel_rfl
theorem tof249 : tof Try.prog 249 = some { size := 1, bytes := 4, zero := [.i .u32 0], shape := .int .u32 } := by kernel_rfl
theorem tof250 : tof Try.prog 250 = some { size := 1, bytes := 8, zero := [.u], shape := .other } := by kernel_rfl
theorem tof251 : tof Try.prog 251 = some { size := 1, bytes := 8, zero := [.u], shape := .other } := by kernel_rfl
theorem tof252 : tof Try.prog 252 = some { size := 1, bytes := 8, zero := [.np], shape := .ptr 62 } := by kernel_rfl
theorem tof253 : tof Try.prog 253 = some { size := 1, bytes := 8, zero := [.u], shape := .other } := by kernel_rfl
theorem tof254 : tof Try.prog 254 = some { size := 1, bytes := 8, zero := [.u], shape := .other } := by kernel_rfl
theorem tof255 : tof Try.prog 255 = some { size := 1, bytes := 8, zero := [.np], shape := .ptr 82 } := by kernel_rfl
theorem tof256 : tof Try.prog 256 = some { size := 0, bytes := 0, zero := [], shape := .struct [], places := [] } := by kernel_rfl
theorem tof257 : tof Try.prog 257 = some { size := 0, bytes := 0, zero := [], shape := .struct [], places := [] } := by kernel_rfl
theorem tof258 : tof Try.prog 258 = some { size := 1, bytes := 8, zero := [.u], shape := .other } := by kernel_rfl
theorem tof259 : tof Try.prog 259 = some { size := 1, bytes := 8, zero := [.u], shape := .other } := by kernel_rfl
theorem tof260 : tof Try.prog 260 = some { size := 1, bytes := 8, zero := [.u], shape := .other } := by kernel_rfl
theorem tof261 : tof Try.prog 261 = some { size := 6, bytes := 24, zero := [.f .f32 0, .f .f32 0, .f .f32 0, .f .f32 0, .f .f32 0, .f .f32 0], shape := .array 6 30 } := by kernel_rfl
theorem tof262 : tof Try.prog 262 = some { size := 1, bytes := 8, zero := [.u], shape := .other } := by kernel_rfl
theorem tof263 : tof Try.prog 263 = some { size := 1, bytes := 8, zero := [.u], shape := .other } := by kernel_rfl
theorem tof264 : tof Try.prog 264 = some { size := 1, bytes := 8, zero := [.u], shape := .other } := by kernel_rfl
theorem tof265 : tof Try.prog 265 = some { size := 1, bytes := 8, zero := [.u], shape := .other } := by kernel_rfl
theorem tof267 : tof Try.prog 267 = some { size := 1, bytes := 8, zero := [.u], shape := .other } := by kernel_rfl
theorem tof268 : tof Try.prog 268 = some { size := 1, bytes := 8, zero := [.u], shape := .other } := by kernel_rfl
theorem tof269 : tof Try.prog 269 = some { size := 1, bytes := 8, zero := [.u], shape := .other } := by kernel_rfl
theorem tof270 : tof Try.prog 270 = some { size := 1, bytes := 8, zero := [.u], shape := .other } := by kernel_rfl
theorem tof271 : tof Try.prog 271 = some { size := 1, bytes := 8, zero := [.u], shape := .other } := by kernel_rfl
theorem tof272 : tof Try.prog 272 = some { size := 1, bytes := 8, zero := [.u], shape := .other } := by kernel_rfl
theorem tof273 : tof Try.prog 273 = some { size := 1, bytes := 8, zero := [.u], shape := .other } := by kernel_rfl
theorem tof274 : tof Try.prog 274 = some { size := 1, bytes := 8, zero := [.u], shape := .other } := by kernel_rfl
theorem tof275 : tof Try.prog 275 = some { size := 1, bytes := 8, zero := [.u], shape := .other } := by kernel_rfl
theorem tof276 : tof Try.prog 276 = some { size := 1, bytes := 8, zero := [.u], shape := .other } := by kernel_rfl
theorem tof277 : tof Try.prog 277 = some { size := 1, bytes := 8, zero := [.u], shape := .other } := by kernel_rfl
theorem tof278 : tof Try.prog 278 = some { size := 1, bytes := 8, zero := [.u], shape := .other } := by kernel_rfl
theorem tof279 : tof Try.prog 279 = some { size := 4, bytes := 40, zero := [.np, .np, .np, .s ⟨#[]⟩], shape := .struct [(0, 17), (1, 17), (2, 17), (3, 9)], places := [(0, 1), (1, 1), (2, 1), (3, 1)] } := by kernel_rfl
theorem tof280 : tof Try.prog 280 = some { size := 4, bytes := 40, zero := [.np, .np, .np, .s ⟨#[]⟩], shape := .struct [(0, 17), (1, 17), (2, 17), (3, 9)], places := [(0, 1), (1, 1), (2, 1), (3, 1)] } := by kernel_rfl
theorem tof281 : tof Try.prog 281 = some { size := 0, bytes := 0, zero := [], shape := .array 0 16 } := by kernel_rfl
theorem tof282 : tof Try.prog 282 = some { size := 0, bytes := 0, zero := [], shape := .struct [(0, 281)], places := [(0, 0)] } := by kernel_rfl
theorem tof283 : tof Try.prog 283 = some { size := 0, bytes := 0, zero := [], shape := .struct [(0, 281)], places := [(0, 0)] } := by kernel_rfl
theorem tof284 : tof Try.prog 284 = some { size := 1, bytes := 8, zero := [.u], shape := .other } := by kernel_rfl
theorem tof285 : tof Try.prog 285 = some { size := 1, bytes := 1, zero := [.i .u8 0], shape := .int .u8 } := by kernel_rfl
theorem tof286 : tof Try.prog 286 = some { size := 1, bytes := 1, zero := [.i .u8 0], shape := .int .u8 } := by kernel_rfl
theorem tof287 : tof Try.prog 287 = some { size := 1, bytes := 8, zero := [.u], shape := .other } := by kernel_rfl
theorem tof288 : tof Try.prog 288 = some { size := 1, bytes := 8, zero := [.np], shape := .ptr 5 } := by kernel_rfl
theorem tof289 : tof Try.prog 289 = some { size := 1, bytes := 4, zero := [.i .i32 0], shape := .int .i32 } := by kernel_rfl
theorem tof290 : tof Try.prog 290 = some { size := 1, bytes := 4, zero := [.i .i32 0], shape := .int .i32 } := by kernel_rfl
theorem tof291 : tof Try.prog 291 = some { size := 11, bytes := 48, zero := [.i .u64 0, .i .u64 0, .i .u32 0, .i .u8 0, .i .u8 0, .i .u8 0, .i .u8 0, .u, .np, .i .i32 0, .i .i32 0], shape := .struct [(0, 12), (1, 12), (2, 249), (3, 285), (4, 5), (5, 5), (6, 286), (7, 287), (8, 288), (9, 289), (10, 290)], places := [(0, 1), (1, 1), (2, 1), (3, 1), (4, 1), (5, 1), (6, 1), (7, 1), (8, 1), (9, 1), (10, 1)] } := by kernel_rfl
theorem tof292 : tof Try.prog 292 = some { size := 11, bytes := 48, zero := [.i .u64 0, .i .u64 0, .i .u32 0, .i .u8 0, .i .u8 0, .i .u8 0, .i .u8 0, .u, .np, .i .i32 0, .i .i32 0], shape := .struct [(0, 12), (1, 12), (2, 249), (3, 285), (4, 5), (5, 5), (6, 286), (7, 287), (8, 288), (9, 289), (10, 290)], places := [(0, 1), (1, 1), (2, 1), (3, 1), (4, 1), (5, 1), (6, 1), (7, 1), (8, 1), (9, 1), (10, 1)] } := by kernel_rfl
theorem tof293 : tof Try.prog 293 = some { size := 1, bytes := 8, zero := [.np], shape := .other } := by kernel_rfl
end Go.Vc

/- Contracts: small functions. Written by wip/tools/walk.py out of wip/notes/modes1.py. -/
set_option linter.unusedVariables false
set_option maxRecDepth 100000
namespace Go.Vc
open Go Go.Proofs

/-- One kind of floating-point number as another; none where the model asks the tape for it. -/
def cv (s k : FloatKind) (x : Nat) : Option Nat := if s = k then some x else if (s.decode x).isNaN then some (qnan k) else floatToFloatBits s x k
theorem conv_ff {si di : TI} {s k : FloatKind} {x y : Nat} (hd : di.shape = .float k) (h : cv s k x = some y) : conv si di (.f s x) = some (.f k y) := by
  unfold cv at h
  unfold conv
  rw [hd]
  simp only
  split at h
  · rename_i e; rw [if_pos e]; cases h; rfl
  · rename_i e
    rw [if_neg e]
    split at h
    · rename_i e'; rw [if_pos e']; cases h; rfl
    · rename_i e'; rw [if_neg e', h]; rfl
theorem conv_ii {si di : TI} {k k' : IntKind} {n : Int} (hd : di.shape = .int k') (h : k'.wrap n = n) : conv si di (.i k n) = some (.i k' n) := by
  unfold conv; rw [hd]; simp only [h]
def widen (x : Nat) : Option Nat := cv .f32 .f64 x
def narrow (x : Nat) : Option Nat := cv .f64 .f32 x
def fge (k : FloatKind) (x y : Nat) : Bool := (flCmp .geq k x y).getD false
def fgt (k : FloatKind) (x y : Nat) : Bool := (flCmp .gtr k x y).getD false
def flt (k : FloatKind) (x y : Nat) : Bool := (flCmp .lss k x y).getD false
def feq (k : FloatKind) (x y : Nat) : Bool := (flCmp .eql k x y).getD false
abbrev add64 := fbin .add .f64
abbrev sub64 := fbin .sub .f64
abbrev mul64 := fbin .mul .f64
abbrev div64 := fbin .quo .f64
abbrev add32 := fbin .add .f32
abbrev sub32 := fbin .sub .f32
abbrev mul32 := fbin .mul .f32
abbrev div32 := fbin .quo .f32

/-- Is it a number? -/
def fin64 (x : Nat) : Bool := feq .f64 (sub64 x x) 0
def spIsFinite (x : Nat) : Option Bool := (widen x).map fin64
def spTurns (k m n : Int) : Nat := div64 (FloatKind.f64.nearest ((k * m).tmod n)) (FloatKind.f64.nearest n)
def spPower (x y : Nat) : Option Nat := (widen x).bind fun a => (widen y).map fun b => add64 (mul64 a a) (mul64 b b)
def spPowerOf (x y : Nat) : Option Nat := (spPower x y).bind narrow
def spLongOf (x y : Nat) : Option Nat := (spPower x y).bind fun p => narrow (fsqrt p)
theorem f204_at : Try.prog.funcs[204]? = some Try.f204 := by kernel_rfl
theorem c_sqrt0 (x : Nat) : CallsTo Try.prog 204 [.f .f64 x] [] (.f .f64 (fsqrt x)) [] := sqrt_to f204_at (by kernel_rfl) (by kernel_rfl) (by kernel_rfl) (by kernel_rfl) x

theorem f134_at : Try.prog.funcs[134]? = some Try.f134 := by kernel_rfl
theorem c_sqrt (x : Nat) : CallsTo Try.prog 134 [.f .f64 x] [] (.f .f64 (fsqrt x)) [] := by
  refine calls_to mixes f134_at (by kernel_rfl) (body_intro rfl fun R0 hR => ?_)
  refine v_seq fun R1 n1 e1 => ?_
  refine v_region ?_
  refine s_assign rfl ?_
  refine s_nil ?_
  refine n1 _ _ ?_
  refine v_seq fun R2 n2 e2 => ?_
  refine v_region ?_
  refine s_move rfl ?_
  refine s_call0 rfl rfl (c_sqrt0 _) rfl rfl ?_
  refine s_assign rfl ?_
  refine s_nil ?_
  refine n2 _ _ ?_
  refine v_ret ?_
  exact (hR _ _ [] rfl ⟨rfl, rfl, trivial⟩).1

theorem f107_at : Try.prog.funcs[107]? = some Try.f107 := by kernel_rfl
theorem c_within (a b c : Int) : CallsTo Try.prog 107 [.i .i64 a, .i .i64 b, .i .i64 c] [] (.b (decide (b ≤ a) && decide (a ≤ c))) [] := by
  refine calls_to mixes f107_at (by kernel_rfl) (body_intro rfl fun R0 hR => ?_)
  refine v_seq fun R1 n1 e1 => ?_
  refine v_region ?_
  refine s_assign rfl ?_
  refine s_nil ?_
  refine n1 _ _ ?_
  refine v_seq fun R2 n2 e2 => ?_
  refine v_region ?_
  refine s_move rfl ?_
  refine s_move rfl ?_
  refine s_bin rfl ?_
  refine s_move rfl ?_
  rcases Bool.eq_false_or_eq_true (decide (b ≤ a)) with hg | hg
  ·
    refine s_want2 rfl rfl hg ?_
    refine s_move rfl ?_
    refine s_want2 rfl rfl hg ?_
    refine s_move rfl ?_
    refine s_want2 rfl rfl hg ?_
    refine s_bin rfl ?_
    refine s_pickT rfl hg rfl ?_
    refine s_assign rfl ?_
    refine s_nil ?_
    refine n2 _ _ ?_
    refine v_ret ?_
    exact (hR _ _ [] (by rw [hg]; rfl) ⟨rfl, rfl, trivial⟩).1
  ·
    refine s_skip2 rfl rfl hg ?_
    refine s_skip2 rfl rfl hg ?_
    refine s_skip2 rfl rfl hg ?_
    refine s_pickF rfl hg rfl ?_
    refine s_assign rfl ?_
    refine s_nil ?_
    refine n2 _ _ ?_
    refine v_ret ?_
    exact (hR _ _ [] (by rw [hg]; rfl) ⟨rfl, rfl, trivial⟩).1

theorem f194_at : Try.prog.funcs[194]? = some Try.f194 := by kernel_rfl
theorem c_isFinite (x : Nat) : CallsTo Try.prog 194 [.f .f64 x] [] (.b (fin64 x)) [] := by
  refine calls_to mixes f194_at (by kernel_rfl) (body_intro rfl fun R0 hR => ?_)
  refine v_seq fun R1 n1 e1 => ?_
  refine v_region ?_
  refine s_assign rfl ?_
  refine s_nil ?_
  refine n1 _ _ ?_
  refine v_seq fun R2 n2 e2 => ?_
  refine v_region ?_
  refine s_move rfl ?_
  refine s_move rfl ?_
  refine s_bin rfl ?_
  refine s_bin rfl ?_
  refine s_assign rfl ?_
  refine s_nil ?_
  refine n2 _ _ ?_
  refine v_ret ?_
  exact (hR _ _ [] rfl ⟨rfl, rfl, trivial⟩).1

theorem f123_at : Try.prog.funcs[123]? = some Try.f123 := by kernel_rfl
theorem c_IsFinite {x : Nat} {r : Bool} (h : spIsFinite x = some r) : CallsTo Try.prog 123 [.f .f32 x] [] (.b r) [] := by
  obtain ⟨y, hy, rfl⟩ := Option.map_eq_some_iff.1 h
  refine calls_to mixes f123_at (by kernel_rfl) (body_intro rfl fun R0 hR => ?_)
  refine v_seq fun R1 n1 e1 => ?_
  refine v_region ?_
  refine s_assign rfl ?_
  refine s_nil ?_
  refine n1 _ _ ?_
  refine v_seq fun R2 n2 e2 => ?_
  refine v_region ?_
  refine s_move rfl ?_
  refine s_conv tof30 tof46 (conv_ff rfl hy) ?_
  refine s_call0 rfl rfl (c_isFinite _) rfl rfl ?_
  refine s_assign rfl ?_
  refine s_nil ?_
  refine n2 _ _ ?_
  refine v_ret ?_
  exact (hR _ _ [] rfl ⟨rfl, rfl, trivial⟩).1

theorem f213_at : Try.prog.funcs[213]? = some Try.f213 := by kernel_rfl
theorem c_turns (k m n : Int) (hn : n ≠ 0) (hm : -9223372036854775808 ≤ k * m ∧ k * m ≤ 9223372036854775807) : CallsTo Try.prog 213 [.i .i64 k, .i .i64 m, .i .i64 n] [] (.f .f64 (spTurns k m n)) [] := by
  refine calls_to mixes f213_at (by kernel_rfl) (body_intro rfl fun R0 hR => ?_)
  refine v_seq fun R1 n1 e1 => ?_
  refine v_region ?_
  refine s_assign rfl ?_
  refine s_nil ?_
  refine n1 _ _ ?_
  refine v_seq fun R2 n2 e2 => ?_
  refine v_region ?_
  refine s_move rfl ?_
  refine s_move rfl ?_
  refine s_bin (i_mul hm) ?_
  refine s_move rfl ?_
  refine s_bin (i_rem hn) ?_
  refine s_conv tof3 tof46 rfl ?_
  refine s_move rfl ?_
  refine s_conv tof3 tof46 rfl ?_
  refine s_bin rfl ?_
  refine s_assign rfl ?_
  refine s_nil ?_
  refine n2 _ _ ?_
  refine v_ret ?_
  exact (hR _ _ [] rfl ⟨rfl, rfl, trivial⟩).1

theorem f54_at : Try.prog.funcs[54]? = some Try.f54 := by kernel_rfl
theorem c_scale (x y b : Nat) : CallsTo Try.prog 54 [.c .f32 x y, .f .f32 b] [] (.c .f32 (mul32 x b) (mul32 y b)) [] := by
  refine calls_to mixes f54_at (by kernel_rfl) (body_intro rfl fun R0 hR => ?_)
  refine v_seq fun R1 n1 e1 => ?_
  refine v_region ?_
  refine s_assign rfl ?_
  refine s_nil ?_
  refine n1 _ _ ?_
  refine v_seq fun R2 n2 e2 => ?_
  refine v_region ?_
  refine s_move rfl ?_
  refine s_real rfl ?_
  refine s_move rfl ?_
  refine s_bin rfl ?_
  refine s_move rfl ?_
  refine s_imag rfl ?_
  refine s_move rfl ?_
  refine s_bin rfl ?_
  refine s_complex rfl ?_
  refine s_assign rfl ?_
  refine s_nil ?_
  refine n2 _ _ ?_
  refine v_ret ?_
  exact (hR _ _ [] rfl ⟨rfl, rfl, trivial⟩).1

theorem f201_at : Try.prog.funcs[201]? = some Try.f201 := by kernel_rfl
theorem c_plus (x y a b : Nat) : CallsTo Try.prog 201 [.c .f32 x y, .c .f32 a b] [] (.c .f32 (add32 x a) (add32 y b)) [] := by
  refine calls_to mixes f201_at (by kernel_rfl) (body_intro rfl fun R0 hR => ?_)
  refine v_seq fun R1 n1 e1 => ?_
  refine v_region ?_
  refine s_assign rfl ?_
  refine s_nil ?_
  refine n1 _ _ ?_
  refine v_seq fun R2 n2 e2 => ?_
  refine v_region ?_
  refine s_move rfl ?_
  refine s_real rfl ?_
  refine s_move rfl ?_
  refine s_real rfl ?_
  refine s_bin rfl ?_
  refine s_move rfl ?_
  refine s_imag rfl ?_
  refine s_move rfl ?_
  refine s_imag rfl ?_
  refine s_bin rfl ?_
  refine s_complex rfl ?_
  refine s_assign rfl ?_
  refine s_nil ?_
  refine n2 _ _ ?_
  refine v_ret ?_
  exact (hR _ _ [] rfl ⟨rfl, rfl, trivial⟩).1

theorem f205_at : Try.prog.funcs[205]? = some Try.f205 := by kernel_rfl
theorem c_parts {x y a b : Nat} (ha : widen x = some a) (hb : widen y = some b) : CallsTo Try.prog 205 [.c .f32 x y] [] (.tu [.f .f64 a, .f .f64 b]) [] := by
  refine calls_to mixes f205_at (by kernel_rfl) (body_intro rfl fun R0 hR => ?_)
  refine v_seq fun R1 n1 e1 => ?_
  refine v_region ?_
  refine s_assign rfl ?_
  refine s_assign rfl ?_
  refine s_nil ?_
  refine n1 _ _ ?_
  refine v_seq fun R2 n2 e2 => ?_
  refine v_region ?_
  refine s_move rfl ?_
  refine s_real rfl ?_
  refine s_conv tof30 tof46 (conv_ff rfl ha) ?_
  refine s_move rfl ?_
  refine s_imag rfl ?_
  refine s_conv tof30 tof46 (conv_ff rfl hb) ?_
  refine s_assign rfl ?_
  refine s_assign rfl ?_
  refine s_nil ?_
  refine n2 _ _ ?_
  refine v_ret ?_
  exact (hR _ _ [] rfl ⟨rfl, rfl, trivial⟩).1

theorem f135_at : Try.prog.funcs[135]? = some Try.f135 := by kernel_rfl
theorem c_power {x y r : Nat} (h : spPower x y = some r) : CallsTo Try.prog 135 [.c .f32 x y] [] (.f .f64 r) [] := by
  obtain ⟨a, ha, h⟩ := Option.bind_eq_some_iff.1 h
  obtain ⟨b, hb, rfl⟩ := Option.map_eq_some_iff.1 h
  refine calls_to mixes f135_at (by kernel_rfl) (body_intro rfl fun R0 hR => ?_)
  refine v_seq fun R1 n1 e1 => ?_
  refine v_region ?_
  refine s_assign rfl ?_
  refine s_nil ?_
  refine n1 _ _ ?_
  refine v_seq fun R2 n2 e2 => ?_
  refine v_region ?_
  refine s_move rfl ?_
  refine s_call0 rfl rfl (c_parts ha hb) rfl rfl ?_
  refine s_move rfl ?_
  refine s_extract rfl rfl ?_
  refine s_extract rfl rfl ?_
  refine s_assign rfl ?_
  refine s_assign rfl ?_
  refine s_nil ?_
  refine n2 _ _ ?_
  refine v_seq fun R3 n3 e3 => ?_
  refine v_region ?_
  refine s_move rfl ?_
  refine s_move rfl ?_
  refine s_bin rfl ?_
  refine s_move rfl ?_
  refine s_move rfl ?_
  refine s_bin rfl ?_
  refine s_bin rfl ?_
  refine s_assign rfl ?_
  refine s_nil ?_
  refine n3 _ _ ?_
  refine v_ret ?_
  exact (hR _ _ [] rfl ⟨rfl, rfl, trivial⟩).1

theorem f214_at : Try.prog.funcs[214]? = some Try.f214 := by kernel_rfl
theorem c_PowerOf {x y r : Nat} (h : spPowerOf x y = some r) : CallsTo Try.prog 214 [.c .f32 x y] [] (.f .f32 r) [] := by
  obtain ⟨p, hp, h⟩ := Option.bind_eq_some_iff.1 h
  refine calls_to mixes f214_at (by kernel_rfl) (body_intro rfl fun R0 hR => ?_)
  refine v_seq fun R1 n1 e1 => ?_
  refine v_region ?_
  refine s_assign rfl ?_
  refine s_nil ?_
  refine n1 _ _ ?_
  refine v_seq fun R2 n2 e2 => ?_
  refine v_region ?_
  refine s_move rfl ?_
  refine s_call0 rfl rfl (c_power hp) rfl rfl ?_
  refine s_conv tof46 tof30 (conv_ff rfl h) ?_
  refine s_assign rfl ?_
  refine s_nil ?_
  refine n2 _ _ ?_
  refine v_ret ?_
  exact (hR _ _ [] rfl ⟨rfl, rfl, trivial⟩).1

theorem f49_at : Try.prog.funcs[49]? = some Try.f49 := by kernel_rfl
theorem c_LongOf {x y r : Nat} (h : spLongOf x y = some r) : CallsTo Try.prog 49 [.c .f32 x y] [] (.f .f32 r) [] := by
  obtain ⟨p, hp, h⟩ := Option.bind_eq_some_iff.1 h
  refine calls_to mixes f49_at (by kernel_rfl) (body_intro rfl fun R0 hR => ?_)
  refine v_seq fun R1 n1 e1 => ?_
  refine v_region ?_
  refine s_assign rfl ?_
  refine s_nil ?_
  refine n1 _ _ ?_
  refine v_seq fun R2 n2 e2 => ?_
  refine v_region ?_
  refine s_move rfl ?_
  refine s_call0 rfl rfl (c_power hp) rfl rfl ?_
  refine s_call0 rfl rfl (c_sqrt _) rfl rfl ?_
  refine s_conv tof46 tof30 (conv_ff rfl h) ?_
  refine s_assign rfl ?_
  refine s_nil ?_
  refine n2 _ _ ?_
  refine v_ret ?_
  exact (hR _ _ [] rfl ⟨rfl, rfl, trivial⟩).1

theorem f182_at : Try.prog.funcs[182]? = some Try.f182 := by kernel_rfl
theorem c_length (o n : Nat) (cap : Cap) (bl : Blk) (hf : AV.flats bl.cells = true) : CallsTo Try.prog 182 [.sl 0 o n cap] [bl] (.i .i64 n) [bl] := by
  refine calls_to mixes f182_at (by kernel_rfl) (body_intro rfl fun R0 hR => ?_)
  refine v_seq fun R1 n1 e1 => ?_
  refine v_region ?_
  refine s_assign rfl ?_
  refine s_nil ?_
  refine n1 _ _ ?_
  refine v_seq fun R2 n2 e2 => ?_
  refine v_region ?_
  refine s_move rfl ?_
  refine s_len tof40 rfl ?_
  refine s_assign rfl ?_
  refine s_nil ?_
  refine n2 _ _ ?_
  refine v_ret ?_
  exact (hR _ _ _ rfl (kept_same (by simpa using hf) rfl)).1

theorem f183_at : Try.prog.funcs[183]? = some Try.f183 := by kernel_rfl
theorem c_size (w h : Int) (hm : -9223372036854775808 ≤ w * h ∧ w * h ≤ 9223372036854775807) : CallsTo Try.prog 183 [.ag [.i .i64 w, .i .i64 h]] [] (.i .i64 (w * h)) [] := by
  refine calls_to mixes f183_at (by kernel_rfl) (body_intro rfl fun R0 hR => ?_)
  refine v_seq fun R1 n1 e1 => ?_
  refine v_region ?_
  refine s_box tof62 rfl rfl rfl rfl ?_
  refine s_assign rfl ?_
  refine s_nil ?_
  refine n1 _ _ ?_
  refine v_seq fun R2 n2 e2 => ?_
  refine v_region ?_
  refine s_fieldAddr tof62 rfl rfl rfl tof2 rfl rfl ?_
  refine s_load rfl rfl ?_
  refine s_fieldAddr tof62 rfl rfl rfl tof2 rfl rfl ?_
  refine s_load rfl rfl ?_
  refine s_bin (i_mul hm) ?_
  refine s_assign rfl ?_
  refine s_nil ?_
  refine n2 _ _ ?_
  refine v_ret ?_
  exact (hR _ _ [] rfl ⟨rfl, rfl, trivial⟩).1

theorem f23_at : Try.prog.funcs[23]? = some Try.f23 := by kernel_rfl
theorem c_r8Long (o o' n n' : Nat) (cap cap' : Cap) (bl bl' : Blk) (hf : AV.flats bl.cells = true ∧ AV.flats bl'.cells = true) : CallsTo Try.prog 23 [.sl 0 o n cap, .sl 1 o' n' cap'] [bl, bl'] (.b (decide ((48 : Int) < n) || decide ((48 : Int) < n'))) [bl, bl'] := by
  refine calls_to mixes f23_at (by kernel_rfl) (body_intro rfl fun R0 hR => ?_)
  refine v_seq fun R1 n1 e1 => ?_
  refine v_region ?_
  refine s_assign rfl ?_
  refine s_nil ?_
  refine n1 _ _ ?_
  refine v_seq fun R2 n2 e2 => ?_
  refine v_region ?_
  refine s_move rfl ?_
  refine s_len tof22 rfl ?_
  refine s_bin rfl ?_
  refine s_move rfl ?_
  rcases Bool.eq_false_or_eq_true (decide ((48 : Int) < n)) with hg | hg
  ·
    refine s_skip2 rfl rfl hg ?_
    refine s_skip2 rfl rfl hg ?_
    refine s_skip2 rfl rfl hg ?_
    refine s_pickT rfl hg rfl ?_
    refine s_assign rfl ?_
    refine s_nil ?_
    refine n2 _ _ ?_
    refine v_ret ?_
    exact (hR _ _ _ (by rw [hg]; rfl) (kept_same (by simpa using hf) rfl)).1
  ·
    refine s_want2 rfl rfl hg ?_
    refine s_move rfl ?_
    refine s_want2 rfl rfl hg ?_
    refine s_len tof22 rfl ?_
    refine s_want2 rfl rfl hg ?_
    refine s_bin rfl ?_
    refine s_pickF rfl hg rfl ?_
    refine s_assign rfl ?_
    refine s_nil ?_
    refine n2 _ _ ?_
    refine v_ret ?_
    exact (hR _ _ _ (by rw [hg]; rfl) (kept_same (by simpa using hf) rfl)).1

/-- A slice of bytes. -/
def byteCells (bs : List UInt8) : List AV := bs.map fun b => .i .u8 b.toNat
theorem flats_bytes (bs : List UInt8) : AV.flats (byteCells bs) = true := flats_map _ (fun _ => rfl) bs
def spAt (bs : List UInt8) (k m : Int) : Int := if m ≤ 1 then 0 else if (bs.length : Int) ≤ k then 0 else ((bs.getD k.toNat 0).toNat : Int).tmod m
theorem load_byte {H : Hp} {k : Nat} {ro : Bool} {bs : List UInt8} {o : Nat} (hk : H[k]? = some ⟨5, ro, byteCells bs⟩) (ho : o < bs.length) : load Try.prog H 5 k o = some (.i .u8 (bs.getD o 0).toNat) := by
  unfold load
  rw [tof5, hk]
  simp [readAt, Shape.agg, byteCells, ho]

theorem f32_at : Try.prog.funcs[32]? = some Try.f32 := by kernel_rfl
theorem c_r8At (bs : List UInt8) (ro : Bool) (cap : Cap) (k m : Int) (hk : 0 ≤ k) : CallsTo Try.prog 32 [.sl 0 0 bs.length cap, .i .i64 k, .i .i64 m] [⟨5, ro, byteCells bs⟩] (.i .i64 (spAt bs k m)) [⟨5, ro, byteCells bs⟩] := by
  refine calls_to mixes f32_at (by kernel_rfl) (body_intro rfl fun R0 hR => ?_)
  refine v_seq fun R1 n1 e1 => ?_
  refine v_region ?_
  refine s_assign rfl ?_
  refine s_nil ?_
  refine n1 _ _ ?_
  refine v_seq fun R2 n2 e2 => ?_
  refine v_seq fun R3 n3 e3 => ?_
  refine v_region ?_
  refine s_move rfl ?_
  refine s_bin rfl ?_
  refine s_move rfl ?_
  rcases Bool.eq_false_or_eq_true (decide (m ≤ 1)) with hg | hg
  ·
    refine s_skip2 rfl rfl hg ?_
    refine s_skip2 rfl rfl hg ?_
    refine s_skip2 rfl rfl hg ?_
    refine s_skip2 rfl rfl hg ?_
    refine s_pickT rfl hg rfl ?_
    refine s_nil ?_
    refine n3 _ _ ?_
    refine v_true rfl ?_
    refine v_seq fun R4 n4 e4 => ?_
    refine v_region ?_
    refine s_assign rfl ?_
    refine s_nil ?_
    refine n4 _ _ ?_
    refine v_ret ?_
    refine e2 _ _ _ (by simp) ?_
    exact (hR _ _ _ (show _ = some (AV.i .i64 (spAt bs k m)) from by rw [show spAt bs k m = 0 from if_pos (by simpa using hg)]; rfl) (kept_same (by simpa using flats_bytes bs) rfl)).1
  ·
    refine s_want2 rfl rfl hg ?_
    refine s_move rfl ?_
    refine s_want2 rfl rfl hg ?_
    refine s_move rfl ?_
    refine s_want2 rfl rfl hg ?_
    refine s_len tof22 rfl ?_
    refine s_want2 rfl rfl hg ?_
    refine s_bin rfl ?_
    refine s_pickF rfl hg rfl ?_
    refine s_nil ?_
    refine n3 _ _ ?_
    refine v_cond rfl (fun hc => ?_) (fun hc => ?_)
    ·
      refine v_seq fun R5 n5 e5 => ?_
      refine v_region ?_
      refine s_assign rfl ?_
      refine s_nil ?_
      refine n5 _ _ ?_
      refine v_ret ?_
      refine e2 _ _ _ (by simp) ?_
      exact (hR _ _ _ (show _ = some (AV.i .i64 (spAt bs k m)) from by rw [show spAt bs k m = 0 from (if_neg (by simpa using hg)).trans (if_pos (by simpa using hc))]; rfl) (kept_same (by simpa using flats_bytes bs) rfl)).1
    ·
      refine v_skip ?_
      refine n2 _ _ ?_
      refine v_seq fun R6 n6 e6 => ?_
      refine v_region ?_
      refine s_move rfl ?_
      refine s_move rfl ?_
      refine s_indexSl (o' := k.toNat) tof22 rfl rfl rfl tof5 ⟨hk, by simpa using hc⟩ (by simp) ?_
      refine s_load rfl (load_byte rfl (by simp at hc; omega)) ?_
      refine s_conv tof5 tof2 (conv_ii rfl (wrap64 (by have := (bs.getD k.toNat 0).toNat_lt; omega))) ?_
      refine s_move rfl ?_
      refine s_bin (i_rem (by simp at hg; omega)) ?_
      refine s_assign rfl ?_
      refine s_nil ?_
      refine n6 _ _ ?_
      refine v_ret ?_
      exact (hR _ _ _ (show _ = some (AV.i .i64 (spAt bs k m)) from by rw [show spAt bs k m = ((bs.getD k.toNat 0).toNat : Int).tmod m from (if_neg (by simpa using hg)).trans (if_neg (by simpa using hc))]; rfl) (kept_same (by simpa using flats_bytes bs) rfl)).1

end Go.Vc

/- Contracts: grids and choices. Written by wip/tools/walk.py out of wip/notes/modes2.py. -/
set_option linter.unusedVariables false
set_option maxRecDepth 100000
namespace Go.Vc
open Go Go.Proofs
def spWithin (a b c : Int) : Bool := decide (b ≤ a) && decide (a ≤ c)
def spValid (w h : Int) : Bool := spWithin w 4 16 && spWithin h 4 16
def spField (w h : Int) (n : Nat) : Bool := spValid w h && decide ((n : Int) = w * h)
theorem f119_at : Try.prog.funcs[119]? = some Try.f119 := by kernel_rfl
theorem c_ValidGrid (w h : Int) : CallsTo Try.prog 119 [.ag [.i .i64 w, .i .i64 h]] [] (.b (spValid w h)) [] := by
  refine calls_to mixes f119_at (by kernel_rfl) (body_intro rfl fun R0 hR => ?_)
  refine v_seq fun R1 n1 e1 => ?_
  refine v_region ?_
  refine s_box tof62 rfl rfl rfl rfl ?_
  refine s_assign rfl ?_
  refine s_nil ?_
  refine n1 _ _ ?_
  refine v_seq fun R2 n2 e2 => ?_
  refine v_region ?_
  refine s_fieldAddr tof62 rfl rfl rfl tof2 rfl rfl ?_
  refine s_load rfl rfl ?_
  refine s_call0 rfl rfl (c_within _ _ _) rfl rfl ?_
  refine s_move rfl ?_
  rcases Bool.eq_false_or_eq_true (spWithin w 4 16) with hg | hg
  ·
    refine s_want2 rfl rfl hg ?_
    refine s_fieldAddr tof62 rfl rfl rfl tof2 rfl rfl ?_
    refine s_want2 rfl rfl hg ?_
    refine s_load rfl rfl ?_
    refine s_want2 rfl rfl hg ?_
    refine s_call0 rfl rfl (c_within _ _ _) rfl rfl ?_
    refine s_pickT rfl hg rfl ?_
    refine s_assign rfl ?_
    refine s_nil ?_
    refine n2 _ _ ?_
    refine v_ret ?_
    exact (hR _ _ [] (by unfold spValid; rw [hg]; rfl) ⟨rfl, rfl, trivial⟩).1
  ·
    refine s_skip2 rfl rfl hg ?_
    refine s_skip2 rfl rfl hg ?_
    refine s_skip2 rfl rfl hg ?_
    refine s_pickF rfl hg rfl ?_
    refine s_assign rfl ?_
    refine s_nil ?_
    refine n2 _ _ ?_
    refine v_ret ?_
    exact (hR _ _ [] (by unfold spValid; rw [hg]; rfl) ⟨rfl, rfl, trivial⟩).1

theorem f111_at : Try.prog.funcs[111]? = some Try.f111 := by kernel_rfl
theorem c_IsField (w h : Int) (n o : Nat) (cap : Cap) (cells : List AV) (hf : AV.flats cells = true) (hm : -9223372036854775808 ≤ w * h ∧ w * h ≤ 9223372036854775807) : CallsTo Try.prog 111 [.ag [.i .i64 w, .i .i64 h], .sl 0 o n cap] [⟨30, true, cells⟩] (.b (spField w h n)) [⟨30, true, cells⟩] := by
  refine calls_to mixes f111_at (by kernel_rfl) (body_intro rfl fun R0 hR => ?_)
  refine v_seq fun R1 n1 e1 => ?_
  refine v_region ?_
  refine s_box tof62 rfl rfl rfl rfl ?_
  refine s_assign rfl ?_
  refine s_nil ?_
  refine n1 _ _ ?_
  refine v_seq fun R2 n2 e2 => ?_
  refine v_regionD [1, 4, 6] [0, 1, 3, 7, 15, 7, 63, 127, 255, 511] (by kernel_rfl) (by kernel_rfl) ?_
  refine d_l rfl rfl rfl (by refine s_load rfl rfl ?_; refine s_nil ?_; exact ⟨rfl, rfl⟩) ob_nil ?_
  refine d_l rfl rfl rfl (by refine s_call0 rfl rfl (c_ValidGrid _ _) rfl rfl ?_; refine s_nil ?_; exact ⟨rfl, rfl⟩) ob_nil ?_
  refine d_n rfl (by refine s_move rfl ?_; refine s_nil ?_; exact ⟨rfl, rfl⟩) ?_
  rcases Bool.eq_false_or_eq_true (spValid w h) with hg | hg
  ·
    refine d_n rfl (by refine s_want2 rfl rfl hg ?_; refine s_move rfl ?_; refine s_nil ?_; exact ⟨rfl, rfl⟩) ?_
    refine d_l rfl rfl rfl (by refine s_want2 rfl rfl hg ?_; refine s_callQ [0] rfl rfl (c_length o n cap ⟨30, true, cells⟩ hf) rfl ⟨⟨_, rfl, rfl, rfl⟩, rfl, hf, trivial⟩ rfl ?_; refine s_nil ?_; exact ⟨rfl, rfl⟩) ob_nil ?_
    refine d_l rfl rfl rfl (by refine s_want2 rfl rfl hg ?_; refine s_load rfl rfl ?_; refine s_nil ?_; exact ⟨rfl, rfl⟩) ob_nil ?_
    refine d_l rfl rfl rfl (by refine s_want2 rfl rfl hg ?_; refine s_call0 rfl rfl (c_size _ _ hm) rfl rfl ?_; refine s_nil ?_; exact ⟨rfl, rfl⟩) ob_nil ?_
    refine d_n rfl (by refine s_want2 rfl rfl hg ?_; refine s_bin rfl ?_; refine s_nil ?_; exact ⟨rfl, rfl⟩) ?_
    refine d_n rfl (by refine s_pickT rfl hg rfl ?_; refine s_nil ?_; exact ⟨rfl, rfl⟩) ?_
    refine d_n rfl (by refine s_assign rfl ?_; refine s_nil ?_; exact ⟨rfl, rfl⟩) ?_
    refine d_nil ?_
    refine n2 _ _ ?_
    refine v_ret ?_
    exact (hR _ _ _ (by unfold spField; rw [hg]; rfl) (kept_same (by simpa using hf) rfl)).1
  ·
    refine d_n rfl (by refine s_skip2 rfl rfl hg ?_; refine s_nil ?_; exact ⟨rfl, rfl⟩) ?_
    refine d_l rfl rfl rfl (by refine s_skip2 rfl rfl hg ?_; refine s_nil ?_; exact ⟨rfl, rfl⟩) ob_nil ?_
    refine d_l rfl rfl rfl (by refine s_skip2 rfl rfl hg ?_; refine s_nil ?_; exact ⟨rfl, rfl⟩) ob_nil ?_
    refine d_l rfl rfl rfl (by refine s_skip2 rfl rfl hg ?_; refine s_nil ?_; exact ⟨rfl, rfl⟩) ob_nil ?_
    refine d_n rfl (by refine s_skip2 rfl rfl hg ?_; refine s_nil ?_; exact ⟨rfl, rfl⟩) ?_
    refine d_n rfl (by refine s_pickF rfl hg rfl ?_; refine s_nil ?_; exact ⟨rfl, rfl⟩) ?_
    refine d_n rfl (by refine s_assign rfl ?_; refine s_nil ?_; exact ⟨rfl, rfl⟩) ?_
    refine d_nil ?_
    refine n2 _ _ ?_
    refine v_ret ?_
    exact (hR _ _ _ (by unfold spField; rw [hg]; rfl) (kept_same (by simpa using hf) rfl)).1

theorem tmod_four {x w : Int} (h0 : 0 ≤ x) (h1 : x < w) : (x + 4 * w).tmod w = x := by
  rw [Int.tmod_eq_emod_of_nonneg (by omega), Int.add_mul_emod_self_right, Int.emod_eq_of_lt h0 h1]

theorem f113_at : Try.prog.funcs[113]? = some Try.f113 := by kernel_rfl
theorem c_index (w h x y : Int) (hx : 0 ≤ x ∧ x < w) (hy : 0 ≤ y ∧ y < h) (hw : w ≤ 16) (hh : h ≤ 16) : CallsTo Try.prog 113 [.ag [.i .i64 w, .i .i64 h], .i .i64 x, .i .i64 y] [] (.i .i64 (x + w * y)) [] := by
  have hmul : 0 ≤ w * y ∧ w * y ≤ 256 := by
    have h1 : 0 ≤ w * y := Int.mul_nonneg (by omega) (by omega)
    have h2 : w * y ≤ 16 * 16 := Int.mul_le_mul hw (by omega) (by omega) (by omega)
    omega
  refine calls_to mixes f113_at (by kernel_rfl) (body_intro rfl fun R0 hR => ?_)
  refine v_seq fun R1 n1 e1 => ?_
  refine v_region ?_
  refine s_box tof62 rfl rfl rfl rfl ?_
  refine s_assign rfl ?_
  refine s_nil ?_
  refine n1 _ _ ?_
  refine v_seq fun R2 n2 e2 => ?_
  refine v_regionD [] [0, 0, 2, 6, 15, 0, 32, 127, 0, 256, 0, 0, 2048, 6144, 15360, 0, 32768, 130048, 261888, 524287, 1048575] (by kernel_rfl) (by kernel_rfl) ?_
  refine d_n rfl (by refine s_move rfl ?_; refine s_nil ?_; exact ⟨rfl, rfl⟩) ?_
  refine d_n rfl (by refine s_fieldAddr tof62 rfl rfl rfl tof2 rfl rfl ?_; refine s_nil ?_; exact ⟨rfl, rfl⟩) ?_
  refine d_l rfl rfl rfl (by refine s_load rfl rfl ?_; refine s_nil ?_; exact ⟨rfl, rfl⟩) ob_nil ?_
  refine d_n rfl (by refine s_bin (i_mul (by omega)) ?_; refine s_nil ?_; exact ⟨rfl, rfl⟩) ?_
  refine d_n rfl (by refine s_bin (i_add (by omega)) ?_; refine s_nil ?_; exact ⟨rfl, rfl⟩) ?_
  refine d_n rfl (by refine s_fieldAddr tof62 rfl rfl rfl tof2 rfl rfl ?_; refine s_nil ?_; exact ⟨rfl, rfl⟩) ?_
  refine d_l rfl rfl rfl (by refine s_load rfl rfl ?_; refine s_nil ?_; exact ⟨rfl, rfl⟩) ob_nil ?_
  refine d_n rfl (by refine s_bin ((i_rem (by omega)).trans (by rw [tmod_four hx.1 hx.2])) ?_; refine s_nil ?_; exact ⟨rfl, rfl⟩) ?_
  refine d_n rfl (by refine s_fieldAddr tof62 rfl rfl rfl tof2 rfl rfl ?_; refine s_nil ?_; exact ⟨rfl, rfl⟩) ?_
  refine d_l rfl rfl rfl (by refine s_load rfl rfl ?_; refine s_nil ?_; exact ⟨rfl, rfl⟩) ob_nil ?_
  refine d_n rfl (by refine s_move rfl ?_; refine s_nil ?_; exact ⟨rfl, rfl⟩) ?_
  refine d_n rfl (by refine s_fieldAddr tof62 rfl rfl rfl tof2 rfl rfl ?_; refine s_nil ?_; exact ⟨rfl, rfl⟩) ?_
  refine d_l rfl rfl rfl (by refine s_load rfl rfl ?_; refine s_nil ?_; exact ⟨rfl, rfl⟩) ob_nil ?_
  refine d_n rfl (by refine s_bin (i_mul (by omega)) ?_; refine s_nil ?_; exact ⟨rfl, rfl⟩) ?_
  refine d_n rfl (by refine s_bin (i_add (by omega)) ?_; refine s_nil ?_; exact ⟨rfl, rfl⟩) ?_
  refine d_n rfl (by refine s_fieldAddr tof62 rfl rfl rfl tof2 rfl rfl ?_; refine s_nil ?_; exact ⟨rfl, rfl⟩) ?_
  refine d_l rfl rfl rfl (by refine s_load rfl rfl ?_; refine s_nil ?_; exact ⟨rfl, rfl⟩) ob_nil ?_
  refine d_n rfl (by refine s_bin ((i_rem (by omega)).trans (by rw [tmod_four hy.1 hy.2])) ?_; refine s_nil ?_; exact ⟨rfl, rfl⟩) ?_
  refine d_n rfl (by refine s_bin (i_mul (by omega)) ?_; refine s_nil ?_; exact ⟨rfl, rfl⟩) ?_
  refine d_n rfl (by refine s_bin (i_add (by omega)) ?_; refine s_nil ?_; exact ⟨rfl, rfl⟩) ?_
  refine d_n rfl (by refine s_assign rfl ?_; refine s_nil ?_; exact ⟨rfl, rfl⟩) ?_
  refine d_nil ?_
  refine n2 _ _ ?_
  refine v_ret ?_
  exact (hR _ _ [] rfl ⟨rfl, rfl, trivial⟩).1

theorem f83_at : Try.prog.funcs[83]? = some Try.f83 := by kernel_rfl
theorem c_l00From (n : Nat) (cap : Cap) (cells : List AV) (hf : AV.flats cells = true) : CallsTo Try.prog 83 [.sl 0 0 n cap] [⟨5, true, cells⟩] (.p 1 0) [⟨5, true, cells⟩, ⟨200, false, [.sl 0 0 n cap, .i .i64 0, .i .u64 0]⟩] := by
  refine calls_to mixes f83_at (by kernel_rfl) (body_intro rfl fun R0 hR => ?_)
  refine v_seq fun R1 n1 e1 => ?_
  refine v_region ?_
  refine s_assign rfl ?_
  refine s_nil ?_
  refine n1 _ _ ?_
  refine v_seq fun R2 n2 e2 => ?_
  refine v_region ?_
  refine s_move rfl ?_
  refine s_build tof200 rfl rfl ?_
  refine s_box tof200 rfl rfl rfl rfl ?_
  refine s_assign rfl ?_
  refine s_nil ?_
  refine n2 _ _ ?_
  refine v_ret ?_
  exact (hR _ _ [0, 1] rfl ⟨rfl, rfl, ⟨⟨_, rfl, (renL_flat _ _ _ hf).symm, rfl, fun h => by cases h⟩, ⟨_, rfl, rfl, rfl, fun h => ⟨h, rfl⟩⟩, trivial⟩⟩).1

/-- The state of a source of choices. -/
def srcCells (n : Nat) (cap : Cap) (at_ : Nat) (seed : Int) : List AV := [.sl 0 0 n cap, .i .i64 at_, .i .u64 seed]
def spSeed (seed b : Int) : Int := IntKind.u64.wrap (IntKind.u64.wrap (IntKind.u64.wrap (seed * 6364136223846793005) + IntKind.u64.wrap b) + 1442695040888963407)
def spByte (bs : List UInt8) (at_ : Nat) : Int := if at_ < bs.length then ((bs.getD at_ 0).toNat : Int) else 0
def spLate (seed : Int) : Int := IntKind.i64.wrap (IntKind.u64.wrap (BitVec.ofInt 64 (seed.fdiv (2 ^ 40)) &&& BitVec.ofInt 64 255).toNat)
def spNext (bs : List UInt8) (at_ : Nat) (seed : Int) : Int := if at_ < bs.length then ((bs.getD at_ 0).toNat : Int) else spLate (spSeed seed 0)
theorem spNext_in {bs : List UInt8} {at_ : Nat} (seed : Int) (h : at_ < bs.length) : spNext bs at_ seed = ((bs.getD at_ 0).toNat : Int) := if_pos h
theorem spNext_out {bs : List UInt8} {at_ : Nat} (seed : Int) (h : ¬ at_ < bs.length) : spNext bs at_ seed = spLate (spSeed seed 0) := if_neg h
theorem spByte_in {bs : List UInt8} {at_ : Nat} (h : at_ < bs.length) : spByte bs at_ = ((bs.getD at_ 0).toNat : Int) := if_pos h
theorem spByte_out {bs : List UInt8} {at_ : Nat} (h : ¬ at_ < bs.length) : spByte bs at_ = 0 := if_neg h

theorem u_mul {sh : Option Shape} {a b x : Int} (h : x = IntKind.u64.wrap (a * b)) : bin .mul sh (.i .u64 a) (.i .u64 b) = some (.i .u64 x) := by subst h; simp [bin, intBin]
theorem u_add {sh : Option Shape} {a b x : Int} (h : x = IntKind.u64.wrap (a + b)) : bin .add sh (.i .u64 a) (.i .u64 b) = some (.i .u64 x) := by subst h; simp [bin, intBin]
theorem u_and {sh : Option Shape} {a b x : Int} (h : x = IntKind.u64.wrap (BitVec.ofInt 64 a &&& BitVec.ofInt 64 b).toNat) : bin .and sh (.i .u64 a) (.i .u64 b) = some (.i .u64 x) := by subst h; simp [bin, intBin]; rfl
theorem u_shr {sh : Option Shape} {k : IntKind} {a x : Int} (h : x = a.fdiv (2 ^ 40)) : bin .shr sh (.i .u64 a) (.i k 40) = some (.i .u64 x) := by subst h; simp [bin]; rfl
theorem conv_iw {si di : TI} {k k' : IntKind} {n x : Int} (hd : di.shape = .int k') (h : x = k'.wrap n) : conv si di (.i k n) = some (.i k' x) := by
  subst h; unfold conv; rw [hd]

theorem f163_at : Try.prog.funcs[163]? = some Try.f163 := by kernel_rfl
set_option maxHeartbeats 4000000 in
theorem c_next (bs : List UInt8) (cap : Cap) (at_ : Nat) (seed : Int) (ha : at_ < 1000) {r sd : Int} (hr : r = spNext bs at_ seed) (hsd : sd = spSeed seed (spByte bs at_)) : CallsTo Try.prog 163 [.p 1 0] [⟨5, true, byteCells bs⟩, ⟨200, false, srcCells bs.length cap at_ seed⟩] (.i .i64 r) [⟨5, true, byteCells bs⟩, ⟨200, false, srcCells bs.length cap (at_ + 1) sd⟩] := by
  obtain ⟨x1, h1⟩ : ∃ x, x = IntKind.u64.wrap (seed * 6364136223846793005) := ⟨_, rfl⟩
  obtain ⟨x0, h0⟩ : ∃ x, x = IntKind.u64.wrap (spByte bs at_) := ⟨_, rfl⟩
  obtain ⟨x2, h2⟩ : ∃ x, x = IntKind.u64.wrap (x1 + x0) := ⟨_, rfl⟩
  have h3 : sd = IntKind.u64.wrap (x2 + 1442695040888963407) := by rw [hsd, h2, h1, h0, spSeed]
  obtain ⟨y1, g1⟩ : ∃ x, x = sd.fdiv (2 ^ 40) := ⟨_, rfl⟩
  obtain ⟨y2, g2⟩ : ∃ x, x = IntKind.u64.wrap (BitVec.ofInt 64 y1 &&& BitVec.ofInt 64 255).toNat := ⟨_, rfl⟩
  refine calls_to mixes f163_at (by kernel_rfl) (body_intro rfl fun R0 hR => ?_)
  refine v_seq fun R1 n1 e1 => ?_
  refine v_region ?_
  refine s_assign rfl ?_
  refine s_nil ?_
  refine n1 _ _ ?_
  refine v_seq fun R2 n2 e2 => ?_
  refine v_region ?_
  refine s_assign rfl ?_
  refine s_nil ?_
  refine n2 _ _ ?_
  refine v_seq fun R3 n3 e3 => ?_
  refine v_seq fun R4 n4 e4 => ?_
  refine v_regionD [] [0, 1, 3, 7, 0, 16, 48, 112, 240, 511] (by kernel_rfl) (by kernel_rfl) ?_
  refine d_n rfl (by refine s_move rfl ?_; refine s_nil ?_; exact ⟨rfl, rfl⟩) ?_
  refine d_n rfl (by refine s_nilCheck rfl ?_; refine s_nil ?_; exact ⟨rfl, rfl⟩) ?_
  refine d_n rfl (by refine s_fieldAddr tof200 rfl rfl rfl tof3 rfl rfl ?_; refine s_nil ?_; exact ⟨rfl, rfl⟩) ?_
  refine d_l rfl rfl rfl (by refine s_load rfl rfl ?_; refine s_nil ?_; exact ⟨rfl, rfl⟩) ob_nil ?_
  refine d_n rfl (by refine s_move rfl ?_; refine s_nil ?_; exact ⟨rfl, rfl⟩) ?_
  refine d_n rfl (by refine s_nilCheck rfl ?_; refine s_nil ?_; exact ⟨rfl, rfl⟩) ?_
  refine d_n rfl (by refine s_fieldAddr tof200 rfl rfl rfl tof22 rfl rfl ?_; refine s_nil ?_; exact ⟨rfl, rfl⟩) ?_
  refine d_l rfl rfl rfl (by refine s_load rfl rfl ?_; refine s_nil ?_; exact ⟨rfl, rfl⟩) ob_nil ?_
  refine d_n rfl (by refine s_len tof22 rfl ?_; refine s_nil ?_; exact ⟨rfl, rfl⟩) ?_
  refine d_n rfl (by refine s_bin rfl ?_; refine s_nil ?_; exact ⟨rfl, rfl⟩) ?_
  refine d_nil ?_
  refine n4 _ _ ?_
  refine v_cond rfl (fun hc => ?_) (fun hc => ?_)
  ·
    refine v_regionD [] [0, 1, 3, 7, 0, 16, 48, 112, 255, 511, 1023, 2047] (by kernel_rfl) (by kernel_rfl) ?_
    refine d_n rfl (by refine s_move rfl ?_; refine s_nil ?_; exact ⟨rfl, rfl⟩) ?_
    refine d_n rfl (by refine s_nilCheck rfl ?_; refine s_nil ?_; exact ⟨rfl, rfl⟩) ?_
    refine d_n rfl (by refine s_fieldAddr tof200 rfl rfl rfl tof22 rfl rfl ?_; refine s_nil ?_; exact ⟨rfl, rfl⟩) ?_
    refine d_l rfl rfl rfl (by refine s_load rfl rfl ?_; refine s_nil ?_; exact ⟨rfl, rfl⟩) ob_nil ?_
    refine d_n rfl (by refine s_move rfl ?_; refine s_nil ?_; exact ⟨rfl, rfl⟩) ?_
    refine d_n rfl (by refine s_nilCheck rfl ?_; refine s_nil ?_; exact ⟨rfl, rfl⟩) ?_
    refine d_n rfl (by refine s_fieldAddr tof200 rfl rfl rfl tof3 rfl rfl ?_; refine s_nil ?_; exact ⟨rfl, rfl⟩) ?_
    refine d_l rfl rfl rfl (by refine s_load rfl rfl ?_; refine s_nil ?_; exact ⟨rfl, rfl⟩) ob_nil ?_
    refine d_n rfl (by refine s_indexSl (o' := at_) tof22 rfl rfl rfl tof5 ⟨by omega, by simpa using hc⟩ (by simp) ?_; refine s_nil ?_; exact ⟨rfl, rfl⟩) ?_
    refine d_l rfl rfl rfl (by refine s_load rfl (load_byte rfl (by simpa using hc)) ?_; refine s_nil ?_; exact ⟨rfl, rfl⟩) ob_nil ?_
    refine d_n rfl (by refine s_conv tof5 tof3 (conv_ii rfl (wrap64 (by have := (bs.getD at_ 0).toNat_lt; omega))) ?_; refine s_nil ?_; exact ⟨rfl, rfl⟩) ?_
    refine d_n rfl (by refine s_assign rfl ?_; refine s_nil ?_; exact ⟨rfl, rfl⟩) ?_
    refine d_nil ?_
    refine n3 _ _ ?_
    refine v_seq fun R5 n5 e5 => ?_
    refine v_region ?_
    refine s_move rfl ?_
    refine s_nilCheck rfl ?_
    refine s_fieldAddr tof200 rfl rfl rfl tof3 rfl rfl ?_
    refine s_load rfl rfl ?_
    refine s_bin (i_add (by omega)) ?_
    refine s_nilCheck rfl ?_
    refine s_fieldAddr tof200 rfl rfl rfl tof3 rfl rfl ?_
    refine s_store rfl rfl ?_
    refine s_nil ?_
    refine n5 _ _ ?_
    refine v_seq fun R6 n6 e6 => ?_
    refine v_region ?_
    refine s_move rfl ?_
    refine s_move rfl ?_
    refine s_nilCheck rfl ?_
    refine s_fieldAddr tof200 rfl rfl rfl tof198 rfl rfl ?_
    refine s_load rfl rfl ?_
    refine s_bin (u_mul h1) ?_
    refine s_move rfl ?_
    refine s_conv tof3 tof198 (conv_iw rfl (h0.trans (by rw [spByte_in (by simpa using hc)]))) ?_
    refine s_bin (u_add h2) ?_
    refine s_bin (u_add h3) ?_
    refine s_nilCheck rfl ?_
    refine s_fieldAddr tof200 rfl rfl rfl tof198 rfl rfl ?_
    refine s_store rfl rfl ?_
    refine s_nil ?_
    refine n6 _ _ ?_
    refine v_seq fun R7 n7 e7 => ?_
    refine v_seq fun R8 n8 e8 => ?_
    refine v_regionD [] [0, 1, 3, 7, 0, 16, 48, 112, 240, 511] (by kernel_rfl) (by kernel_rfl) ?_
    refine d_n rfl (by refine s_move rfl ?_; refine s_nil ?_; exact ⟨rfl, rfl⟩) ?_
    refine d_n rfl (by refine s_nilCheck rfl ?_; refine s_nil ?_; exact ⟨rfl, rfl⟩) ?_
    refine d_n rfl (by refine s_fieldAddr tof200 rfl rfl rfl tof3 rfl rfl ?_; refine s_nil ?_; exact ⟨rfl, rfl⟩) ?_
    refine d_l rfl rfl rfl (by refine s_load rfl rfl ?_; refine s_nil ?_; exact ⟨rfl, rfl⟩) ob_nil ?_
    refine d_n rfl (by refine s_move rfl ?_; refine s_nil ?_; exact ⟨rfl, rfl⟩) ?_
    refine d_n rfl (by refine s_nilCheck rfl ?_; refine s_nil ?_; exact ⟨rfl, rfl⟩) ?_
    refine d_n rfl (by refine s_fieldAddr tof200 rfl rfl rfl tof22 rfl rfl ?_; refine s_nil ?_; exact ⟨rfl, rfl⟩) ?_
    refine d_l rfl rfl rfl (by refine s_load rfl rfl ?_; refine s_nil ?_; exact ⟨rfl, rfl⟩) ob_nil ?_
    refine d_n rfl (by refine s_len tof22 rfl ?_; refine s_nil ?_; exact ⟨rfl, rfl⟩) ?_
    refine d_n rfl (by refine s_bin rfl ?_; refine s_nil ?_; exact ⟨rfl, rfl⟩) ?_
    refine d_nil ?_
    refine n8 _ _ ?_
    refine v_cond rfl (fun hd => ?_) (fun hd => ?_)
    ·
      refine v_seq fun R9 n9 e9 => ?_
      refine v_region ?_
      refine s_move rfl ?_
      refine s_assign rfl ?_
      refine s_nil ?_
      refine n9 _ _ ?_
      refine v_ret ?_
      refine e7 _ _ _ (by simp) ?_
      have hb : at_ < bs.length := by simpa using hc
      exact (hR _ _ [0, 1] (by rw [hr, spNext_in seed hb]; rfl) ⟨rfl, rfl, ⟨⟨_, rfl, (renL_flat _ _ _ (flats_bytes bs)).symm, rfl, fun h => by cases h⟩, ⟨_, rfl, rfl, rfl, fun h => ⟨h, rfl⟩⟩, trivial⟩⟩).1
    ·
      exact absurd hd (by simp at hc ⊢; omega)
  ·
    refine v_skip ?_
    refine n3 _ _ ?_
    refine v_seq fun R10 n10 e10 => ?_
    refine v_region ?_
    refine s_move rfl ?_
    refine s_nilCheck rfl ?_
    refine s_fieldAddr tof200 rfl rfl rfl tof3 rfl rfl ?_
    refine s_load rfl rfl ?_
    refine s_bin (i_add (by omega)) ?_
    refine s_nilCheck rfl ?_
    refine s_fieldAddr tof200 rfl rfl rfl tof3 rfl rfl ?_
    refine s_store rfl rfl ?_
    refine s_nil ?_
    refine n10 _ _ ?_
    refine v_seq fun R11 n11 e11 => ?_
    refine v_region ?_
    refine s_move rfl ?_
    refine s_move rfl ?_
    refine s_nilCheck rfl ?_
    refine s_fieldAddr tof200 rfl rfl rfl tof198 rfl rfl ?_
    refine s_load rfl rfl ?_
    refine s_bin (u_mul h1) ?_
    refine s_move rfl ?_
    refine s_conv tof3 tof198 (conv_iw rfl (h0.trans (by rw [spByte_out (by simpa using hc)]))) ?_
    refine s_bin (u_add h2) ?_
    refine s_bin (u_add h3) ?_
    refine s_nilCheck rfl ?_
    refine s_fieldAddr tof200 rfl rfl rfl tof198 rfl rfl ?_
    refine s_store rfl rfl ?_
    refine s_nil ?_
    refine n11 _ _ ?_
    refine v_seq fun R12 n12 e12 => ?_
    refine v_seq fun R13 n13 e13 => ?_
    refine v_regionD [] [0, 1, 3, 7, 0, 16, 48, 112, 240, 511] (by kernel_rfl) (by kernel_rfl) ?_
    refine d_n rfl (by refine s_move rfl ?_; refine s_nil ?_; exact ⟨rfl, rfl⟩) ?_
    refine d_n rfl (by refine s_nilCheck rfl ?_; refine s_nil ?_; exact ⟨rfl, rfl⟩) ?_
    refine d_n rfl (by refine s_fieldAddr tof200 rfl rfl rfl tof3 rfl rfl ?_; refine s_nil ?_; exact ⟨rfl, rfl⟩) ?_
    refine d_l rfl rfl rfl (by refine s_load rfl rfl ?_; refine s_nil ?_; exact ⟨rfl, rfl⟩) ob_nil ?_
    refine d_n rfl (by refine s_move rfl ?_; refine s_nil ?_; exact ⟨rfl, rfl⟩) ?_
    refine d_n rfl (by refine s_nilCheck rfl ?_; refine s_nil ?_; exact ⟨rfl, rfl⟩) ?_
    refine d_n rfl (by refine s_fieldAddr tof200 rfl rfl rfl tof22 rfl rfl ?_; refine s_nil ?_; exact ⟨rfl, rfl⟩) ?_
    refine d_l rfl rfl rfl (by refine s_load rfl rfl ?_; refine s_nil ?_; exact ⟨rfl, rfl⟩) ob_nil ?_
    refine d_n rfl (by refine s_len tof22 rfl ?_; refine s_nil ?_; exact ⟨rfl, rfl⟩) ?_
    refine d_n rfl (by refine s_bin rfl ?_; refine s_nil ?_; exact ⟨rfl, rfl⟩) ?_
    refine d_nil ?_
    refine n13 _ _ ?_
    refine v_cond rfl (fun hd => ?_) (fun hd => ?_)
    ·
      exact absurd hd (by simp at hc ⊢; omega)
    ·
      refine v_skip ?_
      refine n12 _ _ ?_
      refine v_seq fun R14 n14 e14 => ?_
      refine v_region ?_
      refine s_move rfl ?_
      refine s_nilCheck rfl ?_
      refine s_fieldAddr tof200 rfl rfl rfl tof198 rfl rfl ?_
      refine s_load rfl rfl ?_
      refine s_bin (u_shr g1) ?_
      refine s_bin (u_and g2) ?_
      refine s_conv tof198 tof2 (conv_iw rfl (show r = IntKind.i64.wrap y2 from by rw [hr, spNext_out seed (by simpa using hc), spLate, g2, g1, hsd, spByte_out (by simpa using hc)])) ?_
      refine s_assign rfl ?_
      refine s_nil ?_
      refine n14 _ _ ?_
      refine v_ret ?_
      exact (hR _ _ [0, 1] rfl ⟨rfl, rfl, ⟨⟨_, rfl, (renL_flat _ _ _ (flats_bytes bs)).symm, rfl, fun h => by cases h⟩, ⟨_, rfl, rfl, rfl, fun h => ⟨h, rfl⟩⟩, trivial⟩⟩).1

end Go.Vc
