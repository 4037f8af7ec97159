/- All of it. -/
import Derived.Test.YtbkhmflfhgihhaaGreatDoorL2
import Derived.Test.YtbkhmflfhgihhaaGreatDoorL3
import Derived.Test.YtbkhmflfhgihhaaGreatDoorA4
set_option linter.all false

set_option maxRecDepth 100000
namespace Go.AM.R1
open Go.AM Go.Proofs

theorem ft_all : ft.All (Is Tryz.prog pu) :=
  ⟨⟨⟨⟨⟨⟨⟨trivial, is3, trivial⟩, is8, ⟨trivial, is9, trivial⟩⟩, is10, ⟨⟨trivial, is11, trivial⟩, is12, ⟨trivial, is13, trivial⟩⟩⟩, is14, ⟨⟨⟨trivial, is15, trivial⟩, is16, ⟨trivial, is17, trivial⟩⟩, is18, ⟨⟨trivial, is19, trivial⟩, is20, trivial⟩⟩⟩, is23, ⟨⟨⟨⟨trivial, is32, trivial⟩, is34, ⟨trivial, is37, trivial⟩⟩, is38, ⟨⟨trivial, is39, trivial⟩, is40, trivial⟩⟩, is41, ⟨⟨⟨trivial, is42, trivial⟩, is43, ⟨trivial, is45, trivial⟩⟩, is46, ⟨⟨trivial, is47, trivial⟩, is48, trivial⟩⟩⟩⟩, is49, ⟨⟨⟨⟨⟨trivial, is50, trivial⟩, is51, ⟨trivial, is52, trivial⟩⟩, is53, ⟨⟨trivial, is54, trivial⟩, is55, trivial⟩⟩, is56, ⟨⟨⟨trivial, is58, trivial⟩, is62, ⟨trivial, is64, trivial⟩⟩, is65, ⟨⟨trivial, is66, trivial⟩, is69, trivial⟩⟩⟩, is70, ⟨⟨⟨⟨trivial, is72, trivial⟩, is73, ⟨trivial, is74, trivial⟩⟩, is75, ⟨⟨trivial, is76, trivial⟩, is77, trivial⟩⟩, is78, ⟨⟨⟨trivial, is79, trivial⟩, is80, ⟨trivial, is81, trivial⟩⟩, is82, ⟨⟨trivial, is83, trivial⟩, is84, trivial⟩⟩⟩⟩⟩, is85, ⟨⟨⟨⟨⟨⟨trivial, is86, trivial⟩, is87, ⟨trivial, is88, trivial⟩⟩, is89, ⟨⟨trivial, is90, trivial⟩, is91, ⟨trivial, is92, trivial⟩⟩⟩, is95, ⟨⟨⟨trivial, is97, trivial⟩, is98, ⟨trivial, is99, trivial⟩⟩, is100, ⟨⟨trivial, is101, trivial⟩, is102, trivial⟩⟩⟩, is103, ⟨⟨⟨⟨trivial, is104, trivial⟩, is105, ⟨trivial, is106, trivial⟩⟩, is109, ⟨⟨trivial, is110, trivial⟩, is111, trivial⟩⟩, is112, ⟨⟨⟨trivial, is113, trivial⟩, is114, ⟨trivial, is115, trivial⟩⟩, is116, ⟨⟨trivial, is117, trivial⟩, is118, trivial⟩⟩⟩⟩, is119, ⟨⟨⟨⟨⟨trivial, is120, trivial⟩, is121, ⟨trivial, is122, trivial⟩⟩, is123, ⟨⟨trivial, is124, trivial⟩, is128, trivial⟩⟩, is132, ⟨⟨⟨trivial, is133, trivial⟩, is134, ⟨trivial, is135, trivial⟩⟩, is136, ⟨⟨trivial, is138, trivial⟩, is139, trivial⟩⟩⟩, is140, ⟨⟨⟨⟨trivial, is141, trivial⟩, is142, ⟨trivial, is143, trivial⟩⟩, is144, ⟨⟨trivial, is145, trivial⟩, is146, trivial⟩⟩, is148, ⟨⟨⟨trivial, is150, trivial⟩, is157, ⟨trivial, is158, trivial⟩⟩, is159, ⟨⟨trivial, is168, trivial⟩, is177, trivial⟩⟩⟩⟩⟩⟩
end Go.AM.R1

set_option maxRecDepth 100000
namespace Go.AM.R1
open Go.AM Go.Proofs

def G0 : Globs := fun _ => none
theorem try_code : TryCode Tryz.prog pu 73 96 30 108 where
  cd := by kernel_rfl
  main := ⟨Tryz.f73, k73, _, _, _, _, _, _, _, _, _, _, Tryz.func73, by decide, rfl, by kernel_rfl, rfl, by kernel_rfl, by kernel_rfl, rfl, rfl, rfl, rfl, rfl, rfl, rfl, rfl, by kernel_rfl⟩
  catch_ := ⟨Tryz.f96, (fun i => (([[0, 1], [0, 1, 6], [0, 1, 2, 3], [0, 1, 2, 13], [0, 2], []] : List (List Nat)).getD i [], false)), _, _, _, _, _, Tryz.func96, rfl, rfl, rfl, rfl, rfl, rfl, rfl, rfl, rfl, rfl, rfl, by kernel_rfl⟩
def tr : List (Nat × Nat × Nat) := [(73, 30, 108)]
theorem lay : Lay Tryz.prog pu G0 ft tr where
  orders := by kernel_rfl
  fns := ft_all
  trs := by
    intro x hx
    rcases List.mem_cons.1 hx with rfl | hx
    · exact try_ok (by kernel_rfl) try_code
    · cases hx
/-- What is known of a call. -/
abbrev Kn (a : Ans) : Prop := SPF Tryz.prog G0 a.1 a.2.1 a.2.2
end Go.AM.R1

set_option maxRecDepth 100000
namespace Go.AM.R1
open Go.AM

def a0 : Ans := (47, [.int .i64 1], .ret (.agg [.bool false, .fsl [.int .u32 1] 1]))
def a1 : Ans := (78, [.fsl [.bool false, .nsl, .bool false, .fsl [.int .u32 1] 1] 2], .ret (.bool true))
def a2 : Ans := (102, [.fsl [.int .u32 1] 1, .nsl], .ret (.fsl [.int .u32 1] 1))
def a3 : Ans := (79, [.agg [.bool false, .nsl], .agg [.bool false, .fsl [.int .u32 1] 1], .bool true], .ret (.tup [.agg [.bool true, .fsl [.int .u32 1] 1], .int .i64 0]))
def a4 : Ans := (56, [.agg [.bool false, .fsl [.int .u32 1] 1, .fsl [.int .i64 1, .int .i64 0] 2], .agg [.bool true, .fsl [.int .u32 1] 1, .fsl [.int .i64 0, .int .i64 1] 2]], .ret (.int .i64 (-1)))
def a5 : Ans := (20, [.agg [.int .i64 2, .fsl [.bool false, .fsl [.int .u32 1] 1, .fsl [.int .i64 1, .int .i64 0] 2, .bool true, .fsl [.int .u32 1] 1, .fsl [.int .i64 0, .int .i64 1] 2] 2]], .ret (.bool true))
def a6 : Ans := (78, [.fsl [.bool false, .nsl, .bool true, .fsl [.int .u32 1] 1] 2], .ret (.bool true))
def a7 : Ans := (100, [.nsl, .fsl [.int .u32 1] 1], .ret (.fsl [.int .u32 1] 1))
def a8 : Ans := (79, [.agg [.bool false, .nsl], .agg [.bool true, .fsl [.int .u32 1] 1], .bool false], .ret (.tup [.agg [.bool false, .fsl [.int .u32 1] 1], .int .i64 0]))
def a9 : Ans := (45, [.str [120, 48, 45, 120, 49], .int .i64 2], .ret (.tup [.agg [.int .i64 2, .fsl [.bool false, .fsl [.int .u32 1] 1, .fsl [.int .i64 1, .int .i64 0] 2, .bool true, .fsl [.int .u32 1] 1, .fsl [.int .i64 0, .int .i64 1] 2] 2], .int .i64 0]))
def a10 : Ans := (49, [.int .i64 2, .agg [.bool false, .fsl [.int .u32 1] 1]], .ret (.agg [.int .i64 2, .fsl [.bool false, .fsl [.int .u32 1] 1, .fsl [.int .i64 0, .int .i64 0] 2] 1]))
def a11 : Ans := (78, [.fsl [.bool false, .fsl [.int .u32 1] 1, .bool false, .fsl [.int .u32 1] 1] 2], .ret (.bool true))
def a12 : Ans := (81, [.fsl [.int .u32 1] 1, .fsl [.int .u32 1] 1], .ret (.fsl [.int .u32 1] 1))
def a13 : Ans := (41, [.agg [.bool false, .fsl [.int .u32 1] 1], .agg [.bool false, .fsl [.int .u32 1] 1]], .ret (.tup [.agg [.bool false, .fsl [.int .u32 1] 1], .int .i64 0]))
def a14 : Ans := (79, [.agg [.bool false, .nsl], .agg [.bool false, .fsl [.int .u32 1] 1], .bool false], .ret (.tup [.agg [.bool false, .fsl [.int .u32 1] 1], .int .i64 0]))
def a15 : Ans := (78, [.fsl [.bool false, .fsl [.int .u32 1] 1, .bool true, .fsl [.int .u32 1] 1] 2], .ret (.bool true))
def a16 : Ans := (41, [.agg [.bool false, .fsl [.int .u32 1] 1], .agg [.bool true, .fsl [.int .u32 1] 1]], .ret (.tup [.agg [.bool true, .fsl [.int .u32 1] 1], .int .i64 0]))
def a17 : Ans := (79, [.agg [.bool false, .nsl], .agg [.bool true, .fsl [.int .u32 1] 1], .bool true], .ret (.tup [.agg [.bool true, .fsl [.int .u32 1] 1], .int .i64 0]))
def a18 : Ans := (64, [.agg [.int .i64 2, .fsl [.bool false, .fsl [.int .u32 1] 1, .fsl [.int .i64 0, .int .i64 0] 2] 1], .agg [.int .i64 2, .fsl [.bool false, .fsl [.int .u32 1] 1, .fsl [.int .i64 1, .int .i64 0] 2, .bool true, .fsl [.int .u32 1] 1, .fsl [.int .i64 0, .int .i64 1] 2] 2]], .ret (.agg [.int .i64 2, .fsl [.bool false, .fsl [.int .u32 1] 1, .fsl [.int .i64 1, .int .i64 0] 2, .bool true, .fsl [.int .u32 1] 1, .fsl [.int .i64 0, .int .i64 1] 2] 2]))
def a19 : Ans := (78, [.fsl [.bool true, .fsl [.int .u32 1] 1, .bool false, .fsl [.int .u32 1] 1] 2], .ret (.bool true))
def a20 : Ans := (41, [.agg [.bool true, .fsl [.int .u32 1] 1], .agg [.bool false, .fsl [.int .u32 1] 1]], .ret (.tup [.agg [.bool true, .fsl [.int .u32 1] 1], .int .i64 0]))
def a21 : Ans := (78, [.fsl [.bool true, .fsl [.int .u32 1] 1, .bool true, .fsl [.int .u32 1] 1] 2], .ret (.bool true))
def a22 : Ans := (100, [.fsl [.int .u32 1] 1, .fsl [.int .u32 1] 1], .ret (.fsl [.int .u32 2] 1))
def a23 : Ans := (79, [.agg [.bool true, .fsl [.int .u32 1] 1], .agg [.bool true, .fsl [.int .u32 1] 1], .bool true], .ret (.tup [.agg [.bool true, .fsl [.int .u32 2] 1], .int .i64 0]))
def a24 : Ans := (41, [.agg [.bool true, .fsl [.int .u32 1] 1], .agg [.bool true, .fsl [.int .u32 1] 1]], .ret (.tup [.agg [.bool false, .fsl [.int .u32 1] 1], .int .i64 0]))
def a25 : Ans := (56, [.agg [.bool false, .fsl [.int .u32 1] 1, .fsl [.int .i64 2, .int .i64 0] 2], .agg [.bool true, .fsl [.int .u32 2] 1, .fsl [.int .i64 1, .int .i64 1] 2]], .ret (.int .i64 (-1)))
def a26 : Ans := (56, [.agg [.bool true, .fsl [.int .u32 2] 1, .fsl [.int .i64 1, .int .i64 1] 2], .agg [.bool false, .fsl [.int .u32 1] 1, .fsl [.int .i64 0, .int .i64 2] 2]], .ret (.int .i64 (-1)))
def a27 : Ans := (20, [.agg [.int .i64 2, .fsl [.bool false, .fsl [.int .u32 1] 1, .fsl [.int .i64 2, .int .i64 0] 2, .bool true, .fsl [.int .u32 2] 1, .fsl [.int .i64 1, .int .i64 1] 2, .bool false, .fsl [.int .u32 1] 1, .fsl [.int .i64 0, .int .i64 2] 2] 3]], .ret (.bool true))
def a28 : Ans := (64, [.agg [.int .i64 2, .fsl [.bool false, .fsl [.int .u32 1] 1, .fsl [.int .i64 1, .int .i64 0] 2, .bool true, .fsl [.int .u32 1] 1, .fsl [.int .i64 0, .int .i64 1] 2] 2], .agg [.int .i64 2, .fsl [.bool false, .fsl [.int .u32 1] 1, .fsl [.int .i64 1, .int .i64 0] 2, .bool true, .fsl [.int .u32 1] 1, .fsl [.int .i64 0, .int .i64 1] 2] 2]], .ret (.agg [.int .i64 2, .fsl [.bool false, .fsl [.int .u32 1] 1, .fsl [.int .i64 2, .int .i64 0] 2, .bool true, .fsl [.int .u32 2] 1, .fsl [.int .i64 1, .int .i64 1] 2, .bool false, .fsl [.int .u32 1] 1, .fsl [.int .i64 0, .int .i64 2] 2] 3]))
def a29 : Ans := (77, [.agg [.int .i64 2, .fsl [.bool false, .fsl [.int .u32 1] 1, .fsl [.int .i64 1, .int .i64 0] 2, .bool true, .fsl [.int .u32 1] 1, .fsl [.int .i64 0, .int .i64 1] 2] 2], .int .i64 2], .ret (.agg [.int .i64 2, .fsl [.bool false, .fsl [.int .u32 1] 1, .fsl [.int .i64 2, .int .i64 0] 2, .bool true, .fsl [.int .u32 2] 1, .fsl [.int .i64 1, .int .i64 1] 2, .bool false, .fsl [.int .u32 1] 1, .fsl [.int .i64 0, .int .i64 2] 2] 3]))
def a30 : Ans := (78, [.fsl [.bool false, .nsl, .bool true, .fsl [.int .u32 2] 1] 2], .ret (.bool true))
def a31 : Ans := (100, [.nsl, .fsl [.int .u32 2] 1], .ret (.fsl [.int .u32 2] 1))
def a32 : Ans := (79, [.agg [.bool false, .nsl], .agg [.bool true, .fsl [.int .u32 2] 1], .bool false], .ret (.tup [.agg [.bool false, .fsl [.int .u32 2] 1], .int .i64 0]))
def a33 : Ans := (46, [.agg [.int .i64 2, .fsl [.bool false, .fsl [.int .u32 1] 1, .fsl [.int .i64 2, .int .i64 0] 2, .bool true, .fsl [.int .u32 2] 1, .fsl [.int .i64 1, .int .i64 1] 2, .bool false, .fsl [.int .u32 1] 1, .fsl [.int .i64 0, .int .i64 2] 2] 3]], .ret (.tup [.str [120, 48, 94, 50, 45, 50, 42, 120, 48, 42, 120, 49, 43, 120, 49, 94, 50], .int .i64 0]))
def a34 : Ans := (20, [.agg [.int .i64 1, .fsl [.bool true, .fsl [.int .u32 1] 1, .fsl [.int .i64 1] 1, .bool false, .fsl [.int .u32 1] 1, .fsl [.int .i64 0] 1] 2]], .ret (.bool true))
def a35 : Ans := (45, [.str [45, 120, 48, 43, 49], .int .i64 1], .ret (.tup [.agg [.int .i64 1, .fsl [.bool true, .fsl [.int .u32 1] 1, .fsl [.int .i64 1] 1, .bool false, .fsl [.int .u32 1] 1, .fsl [.int .i64 0] 1] 2], .int .i64 0]))
def a36 : Ans := (20, [.agg [.int .i64 1, .fsl [.bool false, .fsl [.int .u32 1] 1, .fsl [.int .i64 0] 1, .bool true, .fsl [.int .u32 1] 1, .fsl [.int .i64 1] 1] 2]], .ret (.bool false))
def a37 : Ans := (45, [.str [49, 45, 120, 48], .int .i64 1], .ret (.tup [.agg [.int .i64 0, .nsl], .int .i64 3]))
def a38 : Ans := (47, [.int .i64 7], .ret (.agg [.bool false, .fsl [.int .u32 7] 1]))
def a39 : Ans := (47, [.int .i64 3], .ret (.agg [.bool false, .fsl [.int .u32 3] 1]))
def a40 : Ans := (78, [.fsl [.bool false, .fsl [.int .u32 1] 1, .bool false, .fsl [.int .u32 7] 1] 2], .ret (.bool true))
def a41 : Ans := (81, [.fsl [.int .u32 1] 1, .fsl [.int .u32 7] 1], .ret (.fsl [.int .u32 7] 1))
def a42 : Ans := (41, [.agg [.bool false, .fsl [.int .u32 1] 1], .agg [.bool false, .fsl [.int .u32 7] 1]], .ret (.tup [.agg [.bool false, .fsl [.int .u32 7] 1], .int .i64 0]))
def a43 : Ans := (78, [.fsl [.bool false, .fsl [.int .u32 7] 1, .bool false, .fsl [.int .u32 7] 1] 2], .ret (.bool true))
def a44 : Ans := (81, [.fsl [.int .u32 7] 1, .fsl [.int .u32 7] 1], .ret (.fsl [.int .u32 49] 1))
def a45 : Ans := (41, [.agg [.bool false, .fsl [.int .u32 7] 1], .agg [.bool false, .fsl [.int .u32 7] 1]], .ret (.tup [.agg [.bool false, .fsl [.int .u32 49] 1], .int .i64 0]))
def a46 : Ans := (42, [.agg [.bool false, .fsl [.int .u32 7] 1], .int .i64 2], .ret (.tup [.agg [.bool false, .fsl [.int .u32 49] 1], .int .i64 0]))
def a47 : Ans := (78, [.fsl [.bool false, .fsl [.int .u32 1] 1, .bool false, .fsl [.int .u32 49] 1] 2], .ret (.bool true))
def a48 : Ans := (81, [.fsl [.int .u32 1] 1, .fsl [.int .u32 49] 1], .ret (.fsl [.int .u32 49] 1))
def a49 : Ans := (41, [.agg [.bool false, .fsl [.int .u32 1] 1], .agg [.bool false, .fsl [.int .u32 49] 1]], .ret (.tup [.agg [.bool false, .fsl [.int .u32 49] 1], .int .i64 0]))
def a50 : Ans := (97, [.agg [.bool false, .fsl [.int .u32 1] 1, .fsl [.int .i64 2, .int .i64 0] 2], .fsl [.bool false, .fsl [.int .u32 7] 1, .bool false, .fsl [.int .u32 3] 1] 2], .ret (.agg [.bool false, .fsl [.int .u32 49] 1]))
def a51 : Ans := (78, [.fsl [.bool false, .nsl, .bool false, .fsl [.int .u32 49] 1] 2], .ret (.bool true))
def a52 : Ans := (100, [.nsl, .fsl [.int .u32 49] 1], .ret (.fsl [.int .u32 49] 1))
def a53 : Ans := (79, [.agg [.bool false, .nsl], .agg [.bool false, .fsl [.int .u32 49] 1], .bool false], .ret (.tup [.agg [.bool false, .fsl [.int .u32 49] 1], .int .i64 0]))
def a54 : Ans := (42, [.agg [.bool false, .fsl [.int .u32 7] 1], .int .i64 1], .ret (.tup [.agg [.bool false, .fsl [.int .u32 7] 1], .int .i64 0]))
def a55 : Ans := (78, [.fsl [.bool true, .fsl [.int .u32 2] 1, .bool false, .fsl [.int .u32 7] 1] 2], .ret (.bool true))
def a56 : Ans := (81, [.fsl [.int .u32 2] 1, .fsl [.int .u32 7] 1], .ret (.fsl [.int .u32 14] 1))
def a57 : Ans := (41, [.agg [.bool true, .fsl [.int .u32 2] 1], .agg [.bool false, .fsl [.int .u32 7] 1]], .ret (.tup [.agg [.bool true, .fsl [.int .u32 14] 1], .int .i64 0]))
def a58 : Ans := (78, [.fsl [.bool false, .fsl [.int .u32 1] 1, .bool false, .fsl [.int .u32 3] 1] 2], .ret (.bool true))
def a59 : Ans := (81, [.fsl [.int .u32 1] 1, .fsl [.int .u32 3] 1], .ret (.fsl [.int .u32 3] 1))
def a60 : Ans := (41, [.agg [.bool false, .fsl [.int .u32 1] 1], .agg [.bool false, .fsl [.int .u32 3] 1]], .ret (.tup [.agg [.bool false, .fsl [.int .u32 3] 1], .int .i64 0]))
def a61 : Ans := (42, [.agg [.bool false, .fsl [.int .u32 3] 1], .int .i64 1], .ret (.tup [.agg [.bool false, .fsl [.int .u32 3] 1], .int .i64 0]))
def a62 : Ans := (78, [.fsl [.bool true, .fsl [.int .u32 14] 1, .bool false, .fsl [.int .u32 3] 1] 2], .ret (.bool true))
def a63 : Ans := (81, [.fsl [.int .u32 14] 1, .fsl [.int .u32 3] 1], .ret (.fsl [.int .u32 42] 1))
def a64 : Ans := (41, [.agg [.bool true, .fsl [.int .u32 14] 1], .agg [.bool false, .fsl [.int .u32 3] 1]], .ret (.tup [.agg [.bool true, .fsl [.int .u32 42] 1], .int .i64 0]))
def a65 : Ans := (97, [.agg [.bool true, .fsl [.int .u32 2] 1, .fsl [.int .i64 1, .int .i64 1] 2], .fsl [.bool false, .fsl [.int .u32 7] 1, .bool false, .fsl [.int .u32 3] 1] 2], .ret (.agg [.bool true, .fsl [.int .u32 42] 1]))
def a66 : Ans := (78, [.fsl [.bool false, .nsl, .bool true, .fsl [.int .u32 42] 1] 2], .ret (.bool true))
def a67 : Ans := (102, [.fsl [.int .u32 42] 1, .nsl], .ret (.fsl [.int .u32 42] 1))
def a68 : Ans := (79, [.agg [.bool false, .nsl], .agg [.bool true, .fsl [.int .u32 42] 1], .bool true], .ret (.tup [.agg [.bool true, .fsl [.int .u32 42] 1], .int .i64 0]))
def a69 : Ans := (78, [.fsl [.bool false, .fsl [.int .u32 3] 1, .bool false, .fsl [.int .u32 3] 1] 2], .ret (.bool true))
def a70 : Ans := (81, [.fsl [.int .u32 3] 1, .fsl [.int .u32 3] 1], .ret (.fsl [.int .u32 9] 1))
def a71 : Ans := (41, [.agg [.bool false, .fsl [.int .u32 3] 1], .agg [.bool false, .fsl [.int .u32 3] 1]], .ret (.tup [.agg [.bool false, .fsl [.int .u32 9] 1], .int .i64 0]))
def a72 : Ans := (42, [.agg [.bool false, .fsl [.int .u32 3] 1], .int .i64 2], .ret (.tup [.agg [.bool false, .fsl [.int .u32 9] 1], .int .i64 0]))
def a73 : Ans := (78, [.fsl [.bool false, .fsl [.int .u32 1] 1, .bool false, .fsl [.int .u32 9] 1] 2], .ret (.bool true))
def a74 : Ans := (81, [.fsl [.int .u32 1] 1, .fsl [.int .u32 9] 1], .ret (.fsl [.int .u32 9] 1))
def a75 : Ans := (41, [.agg [.bool false, .fsl [.int .u32 1] 1], .agg [.bool false, .fsl [.int .u32 9] 1]], .ret (.tup [.agg [.bool false, .fsl [.int .u32 9] 1], .int .i64 0]))
def a76 : Ans := (97, [.agg [.bool false, .fsl [.int .u32 1] 1, .fsl [.int .i64 0, .int .i64 2] 2], .fsl [.bool false, .fsl [.int .u32 7] 1, .bool false, .fsl [.int .u32 3] 1] 2], .ret (.agg [.bool false, .fsl [.int .u32 9] 1]))
def a77 : Ans := (78, [.fsl [.bool false, .fsl [.int .u32 49] 1, .bool false, .fsl [.int .u32 9] 1] 2], .ret (.bool true))
def a78 : Ans := (100, [.fsl [.int .u32 49] 1, .fsl [.int .u32 9] 1], .ret (.fsl [.int .u32 58] 1))
def a79 : Ans := (79, [.agg [.bool false, .fsl [.int .u32 49] 1], .agg [.bool false, .fsl [.int .u32 9] 1], .bool false], .ret (.tup [.agg [.bool false, .fsl [.int .u32 58] 1], .int .i64 0]))
def a80 : Ans := (78, [.fsl [.bool false, .fsl [.int .u32 58] 1, .bool true, .fsl [.int .u32 42] 1] 2], .ret (.bool true))
def a81 : Ans := (102, [.fsl [.int .u32 58] 1, .fsl [.int .u32 42] 1], .ret (.fsl [.int .u32 16] 1))
def a82 : Ans := (79, [.agg [.bool false, .fsl [.int .u32 58] 1], .agg [.bool true, .fsl [.int .u32 42] 1], .bool true], .ret (.tup [.agg [.bool false, .fsl [.int .u32 16] 1], .int .i64 0]))
def a83 : Ans := (75, [.agg [.int .i64 2, .fsl [.bool false, .fsl [.int .u32 1] 1, .fsl [.int .i64 2, .int .i64 0] 2, .bool true, .fsl [.int .u32 2] 1, .fsl [.int .i64 1, .int .i64 1] 2, .bool false, .fsl [.int .u32 1] 1, .fsl [.int .i64 0, .int .i64 2] 2] 3], .fsl [.bool false, .fsl [.int .u32 7] 1, .bool false, .fsl [.int .u32 3] 1] 2], .ret (.agg [.bool false, .fsl [.int .u32 16] 1]))
def a84 : Ans := (37, [.agg [.int .i64 2, .fsl [.bool false, .fsl [.int .u32 1] 1, .fsl [.int .i64 2, .int .i64 0] 2, .bool true, .fsl [.int .u32 2] 1, .fsl [.int .i64 1, .int .i64 1] 2, .bool false, .fsl [.int .u32 1] 1, .fsl [.int .i64 0, .int .i64 2] 2] 3], .fsl [.bool false, .fsl [.int .u32 7] 1, .bool false, .fsl [.int .u32 3] 1] 2], .ret (.tup [.agg [.bool false, .fsl [.int .u32 16] 1], .int .i64 0]))
def a85 : Ans := (34, [.int .i64 16], .ret (.agg [.bool false, .fsl [.int .u32 16] 1]))
def a86 : Ans := (9, [], .ret (.bool true))
end Go.AM.R1
