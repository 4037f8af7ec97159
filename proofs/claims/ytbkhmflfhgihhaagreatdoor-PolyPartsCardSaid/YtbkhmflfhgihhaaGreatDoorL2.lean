/- The code is the program's. -/
import Derived.Test.YtbkhmflfhgihhaaGreatDoorL1
import Derived.Test.YtbkhmflfhgihhaaGreatDoorProg
set_option linter.all false

set_option maxRecDepth 100000
namespace Go.AM.R1
open Go.AM Go.Proofs

theorem is11 : Is Tryz.prog pu 11 c11 := ⟨k11, _, Tryz.func11, by kernel_rfl⟩
theorem is13 : Is Tryz.prog pu 13 c13 := ⟨k13, _, Tryz.func13, by kernel_rfl⟩
theorem is19 : Is Tryz.prog pu 19 c19 := ⟨k19, _, Tryz.func19, by kernel_rfl⟩
theorem is38 : Is Tryz.prog pu 38 c38 := ⟨k38, _, Tryz.func38, by kernel_rfl⟩
theorem is43 : Is Tryz.prog pu 43 c43 := ⟨k43, _, Tryz.func43, by kernel_rfl⟩
theorem is46 : Is Tryz.prog pu 46 c46 := ⟨k46, _, Tryz.func46, by kernel_rfl⟩
theorem is47 : Is Tryz.prog pu 47 c47 := ⟨k47, _, Tryz.func47, by kernel_rfl⟩
theorem is48 : Is Tryz.prog pu 48 c48 := ⟨k48, _, Tryz.func48, by kernel_rfl⟩
theorem is52 : Is Tryz.prog pu 52 c52 := ⟨k52, _, Tryz.func52, by kernel_rfl⟩
theorem is58 : Is Tryz.prog pu 58 c58 := ⟨k58, _, Tryz.func58, by kernel_rfl⟩
theorem is65 : Is Tryz.prog pu 65 c65 := ⟨k65, _, Tryz.func65, by kernel_rfl⟩
theorem is74 : Is Tryz.prog pu 74 c74 := ⟨k74, _, Tryz.func74, by kernel_rfl⟩
theorem is78 : Is Tryz.prog pu 78 c78 := ⟨k78, _, Tryz.func78, by kernel_rfl⟩
theorem is82 : Is Tryz.prog pu 82 c82 := ⟨k82, _, Tryz.func82, by kernel_rfl⟩
theorem is83 : Is Tryz.prog pu 83 c83 := ⟨k83, _, Tryz.func83, by kernel_rfl⟩
theorem is85 : Is Tryz.prog pu 85 c85 := ⟨k85, _, Tryz.func85, by kernel_rfl⟩
theorem is88 : Is Tryz.prog pu 88 c88 := ⟨k88, _, Tryz.func88, by kernel_rfl⟩
theorem is89 : Is Tryz.prog pu 89 c89 := ⟨k89, _, Tryz.func89, by kernel_rfl⟩
theorem is92 : Is Tryz.prog pu 92 c92 := ⟨k92, _, Tryz.func92, by kernel_rfl⟩
theorem is98 : Is Tryz.prog pu 98 c98 := ⟨k98, _, Tryz.func98, by kernel_rfl⟩
theorem is99 : Is Tryz.prog pu 99 c99 := ⟨k99, _, Tryz.func99, by kernel_rfl⟩
theorem is100 : Is Tryz.prog pu 100 c100 := ⟨k100, _, Tryz.func100, by kernel_rfl⟩
theorem is102 : Is Tryz.prog pu 102 c102 := ⟨k102, _, Tryz.func102, by kernel_rfl⟩
theorem is105 : Is Tryz.prog pu 105 c105 := ⟨k105, _, Tryz.func105, by kernel_rfl⟩
theorem is112 : Is Tryz.prog pu 112 c112 := ⟨k112, _, Tryz.func112, by kernel_rfl⟩
theorem is113 : Is Tryz.prog pu 113 c113 := ⟨k113, _, Tryz.func113, by kernel_rfl⟩
theorem is116 : Is Tryz.prog pu 116 c116 := ⟨k116, _, Tryz.func116, by kernel_rfl⟩
theorem is132 : Is Tryz.prog pu 132 c132 := ⟨k132, _, Tryz.func132, by kernel_rfl⟩
theorem is168 : Is Tryz.prog pu 168 c168 := ⟨k168, _, Tryz.func168, by kernel_rfl⟩
end Go.AM.R1

set_option maxRecDepth 100000
namespace Go.AM.R1
open Go.AM Go.Proofs

theorem is9 : Is Tryz.prog pu 9 c9 := ⟨k9, _, Tryz.func9, by kernel_rfl⟩
theorem is10 : Is Tryz.prog pu 10 c10 := ⟨k10, _, Tryz.func10, by kernel_rfl⟩
theorem is12 : Is Tryz.prog pu 12 c12 := ⟨k12, _, Tryz.func12, by kernel_rfl⟩
theorem is32 : Is Tryz.prog pu 32 c32 := ⟨k32, _, Tryz.func32, by kernel_rfl⟩
theorem is37 : Is Tryz.prog pu 37 c37 := ⟨k37, _, Tryz.func37, by kernel_rfl⟩
theorem is39 : Is Tryz.prog pu 39 c39 := ⟨k39, _, Tryz.func39, by kernel_rfl⟩
theorem is41 : Is Tryz.prog pu 41 c41 := ⟨k41, _, Tryz.func41, by kernel_rfl⟩
theorem is51 : Is Tryz.prog pu 51 c51 := ⟨k51, _, Tryz.func51, by kernel_rfl⟩
theorem is53 : Is Tryz.prog pu 53 c53 := ⟨k53, _, Tryz.func53, by kernel_rfl⟩
theorem is56 : Is Tryz.prog pu 56 c56 := ⟨k56, _, Tryz.func56, by kernel_rfl⟩
theorem is64 : Is Tryz.prog pu 64 c64 := ⟨k64, _, Tryz.func64, by kernel_rfl⟩
theorem is66 : Is Tryz.prog pu 66 c66 := ⟨k66, _, Tryz.func66, by kernel_rfl⟩
theorem is73 : Is Tryz.prog pu 73 c73 := ⟨k73, _, Tryz.func73, by kernel_rfl⟩
theorem is76 : Is Tryz.prog pu 76 c76 := ⟨k76, _, Tryz.func76, by kernel_rfl⟩
theorem is80 : Is Tryz.prog pu 80 c80 := ⟨k80, _, Tryz.func80, by kernel_rfl⟩
theorem is91 : Is Tryz.prog pu 91 c91 := ⟨k91, _, Tryz.func91, by kernel_rfl⟩
theorem is119 : Is Tryz.prog pu 119 c119 := ⟨k119, _, Tryz.func119, by kernel_rfl⟩
theorem is120 : Is Tryz.prog pu 120 c120 := ⟨k120, _, Tryz.func120, by kernel_rfl⟩
theorem is123 : Is Tryz.prog pu 123 c123 := ⟨k123, _, Tryz.func123, by kernel_rfl⟩
theorem is133 : Is Tryz.prog pu 133 c133 := ⟨k133, _, Tryz.func133, by kernel_rfl⟩
theorem is139 : Is Tryz.prog pu 139 c139 := ⟨k139, _, Tryz.func139, by kernel_rfl⟩
theorem is141 : Is Tryz.prog pu 141 c141 := ⟨k141, _, Tryz.func141, by kernel_rfl⟩
theorem is142 : Is Tryz.prog pu 142 c142 := ⟨k142, _, Tryz.func142, by kernel_rfl⟩
theorem is143 : Is Tryz.prog pu 143 c143 := ⟨k143, _, Tryz.func143, by kernel_rfl⟩
theorem is145 : Is Tryz.prog pu 145 c145 := ⟨k145, _, Tryz.func145, by kernel_rfl⟩
theorem is148 : Is Tryz.prog pu 148 c148 := ⟨k148, _, Tryz.func148, by kernel_rfl⟩
theorem is150 : Is Tryz.prog pu 150 c150 := ⟨k150, _, Tryz.func150, by kernel_rfl⟩
theorem is157 : Is Tryz.prog pu 157 c157 := ⟨k157, _, Tryz.func157, by kernel_rfl⟩
end Go.AM.R1
