/- The code is the program's. -/
import Derived.Test.YtbkhmflfhgihhaaGreatDoorL1
import Derived.Test.YtbkhmflfhgihhaaGreatDoorProg
set_option linter.all false

set_option maxRecDepth 100000
namespace Go.AM.R1
open Go.AM Go.Proofs

theorem is8 : Is Tryz.prog pu 8 c8 := ⟨k8, _, Tryz.func8, by kernel_rfl⟩
theorem is15 : Is Tryz.prog pu 15 c15 := ⟨k15, _, Tryz.func15, by kernel_rfl⟩
theorem is20 : Is Tryz.prog pu 20 c20 := ⟨k20, _, Tryz.func20, by kernel_rfl⟩
theorem is40 : Is Tryz.prog pu 40 c40 := ⟨k40, _, Tryz.func40, by kernel_rfl⟩
theorem is45 : Is Tryz.prog pu 45 c45 := ⟨k45, _, Tryz.func45, by kernel_rfl⟩
theorem is69 : Is Tryz.prog pu 69 c69 := ⟨k69, _, Tryz.func69, by kernel_rfl⟩
theorem is70 : Is Tryz.prog pu 70 c70 := ⟨k70, _, Tryz.func70, by kernel_rfl⟩
theorem is72 : Is Tryz.prog pu 72 c72 := ⟨k72, _, Tryz.func72, by kernel_rfl⟩
theorem is75 : Is Tryz.prog pu 75 c75 := ⟨k75, _, Tryz.func75, by kernel_rfl⟩
theorem is77 : Is Tryz.prog pu 77 c77 := ⟨k77, _, Tryz.func77, by kernel_rfl⟩
theorem is86 : Is Tryz.prog pu 86 c86 := ⟨k86, _, Tryz.func86, by kernel_rfl⟩
theorem is87 : Is Tryz.prog pu 87 c87 := ⟨k87, _, Tryz.func87, by kernel_rfl⟩
theorem is97 : Is Tryz.prog pu 97 c97 := ⟨k97, _, Tryz.func97, by kernel_rfl⟩
theorem is103 : Is Tryz.prog pu 103 c103 := ⟨k103, _, Tryz.func103, by kernel_rfl⟩
theorem is104 : Is Tryz.prog pu 104 c104 := ⟨k104, _, Tryz.func104, by kernel_rfl⟩
theorem is106 : Is Tryz.prog pu 106 c106 := ⟨k106, _, Tryz.func106, by kernel_rfl⟩
theorem is114 : Is Tryz.prog pu 114 c114 := ⟨k114, _, Tryz.func114, by kernel_rfl⟩
theorem is115 : Is Tryz.prog pu 115 c115 := ⟨k115, _, Tryz.func115, by kernel_rfl⟩
theorem is117 : Is Tryz.prog pu 117 c117 := ⟨k117, _, Tryz.func117, by kernel_rfl⟩
theorem is121 : Is Tryz.prog pu 121 c121 := ⟨k121, _, Tryz.func121, by kernel_rfl⟩
theorem is122 : Is Tryz.prog pu 122 c122 := ⟨k122, _, Tryz.func122, by kernel_rfl⟩
theorem is128 : Is Tryz.prog pu 128 c128 := ⟨k128, _, Tryz.func128, by kernel_rfl⟩
theorem is135 : Is Tryz.prog pu 135 c135 := ⟨k135, _, Tryz.func135, by kernel_rfl⟩
theorem is138 : Is Tryz.prog pu 138 c138 := ⟨k138, _, Tryz.func138, by kernel_rfl⟩
theorem is144 : Is Tryz.prog pu 144 c144 := ⟨k144, _, Tryz.func144, by kernel_rfl⟩
theorem is146 : Is Tryz.prog pu 146 c146 := ⟨k146, _, Tryz.func146, by kernel_rfl⟩
theorem is159 : Is Tryz.prog pu 159 c159 := ⟨k159, _, Tryz.func159, by kernel_rfl⟩
theorem is177 : Is Tryz.prog pu 177 c177 := ⟨k177, _, Tryz.func177, by kernel_rfl⟩
end Go.AM.R1

set_option maxRecDepth 100000
namespace Go.AM.R1
open Go.AM Go.Proofs

theorem is3 : Is Tryz.prog pu 3 c3 := ⟨k3, _, Tryz.func3, by kernel_rfl⟩
theorem is14 : Is Tryz.prog pu 14 c14 := ⟨k14, _, Tryz.func14, by kernel_rfl⟩
theorem is16 : Is Tryz.prog pu 16 c16 := ⟨k16, _, Tryz.func16, by kernel_rfl⟩
theorem is17 : Is Tryz.prog pu 17 c17 := ⟨k17, _, Tryz.func17, by kernel_rfl⟩
theorem is18 : Is Tryz.prog pu 18 c18 := ⟨k18, _, Tryz.func18, by kernel_rfl⟩
theorem is23 : Is Tryz.prog pu 23 c23 := ⟨k23, _, Tryz.func23, by kernel_rfl⟩
theorem is34 : Is Tryz.prog pu 34 c34 := ⟨k34, _, Tryz.func34, by kernel_rfl⟩
theorem is42 : Is Tryz.prog pu 42 c42 := ⟨k42, _, Tryz.func42, by kernel_rfl⟩
theorem is49 : Is Tryz.prog pu 49 c49 := ⟨k49, _, Tryz.func49, by kernel_rfl⟩
theorem is50 : Is Tryz.prog pu 50 c50 := ⟨k50, _, Tryz.func50, by kernel_rfl⟩
theorem is54 : Is Tryz.prog pu 54 c54 := ⟨k54, _, Tryz.func54, by kernel_rfl⟩
theorem is55 : Is Tryz.prog pu 55 c55 := ⟨k55, _, Tryz.func55, by kernel_rfl⟩
theorem is62 : Is Tryz.prog pu 62 c62 := ⟨k62, _, Tryz.func62, by kernel_rfl⟩
theorem is79 : Is Tryz.prog pu 79 c79 := ⟨k79, _, Tryz.func79, by kernel_rfl⟩
theorem is81 : Is Tryz.prog pu 81 c81 := ⟨k81, _, Tryz.func81, by kernel_rfl⟩
theorem is84 : Is Tryz.prog pu 84 c84 := ⟨k84, _, Tryz.func84, by kernel_rfl⟩
theorem is90 : Is Tryz.prog pu 90 c90 := ⟨k90, _, Tryz.func90, by kernel_rfl⟩
theorem is95 : Is Tryz.prog pu 95 c95 := ⟨k95, _, Tryz.func95, by kernel_rfl⟩
theorem is101 : Is Tryz.prog pu 101 c101 := ⟨k101, _, Tryz.func101, by kernel_rfl⟩
theorem is109 : Is Tryz.prog pu 109 c109 := ⟨k109, _, Tryz.func109, by kernel_rfl⟩
theorem is110 : Is Tryz.prog pu 110 c110 := ⟨k110, _, Tryz.func110, by kernel_rfl⟩
theorem is111 : Is Tryz.prog pu 111 c111 := ⟨k111, _, Tryz.func111, by kernel_rfl⟩
theorem is118 : Is Tryz.prog pu 118 c118 := ⟨k118, _, Tryz.func118, by kernel_rfl⟩
theorem is124 : Is Tryz.prog pu 124 c124 := ⟨k124, _, Tryz.func124, by kernel_rfl⟩
theorem is134 : Is Tryz.prog pu 134 c134 := ⟨k134, _, Tryz.func134, by kernel_rfl⟩
theorem is136 : Is Tryz.prog pu 136 c136 := ⟨k136, _, Tryz.func136, by kernel_rfl⟩
theorem is140 : Is Tryz.prog pu 140 c140 := ⟨k140, _, Tryz.func140, by kernel_rfl⟩
theorem is158 : Is Tryz.prog pu 158 c158 := ⟨k158, _, Tryz.func158, by kernel_rfl⟩
end Go.AM.R1
