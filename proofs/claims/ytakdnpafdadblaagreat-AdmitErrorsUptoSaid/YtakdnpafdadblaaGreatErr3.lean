/-
  PROVED: 'tarnlaw17.AdmitErrors' returns true and leaves its argument as it was, where the argument is of bulk at most 1048576 (Rows.AdmitErrorsUptoSaid). Part 3 of 7.
-/
import Derived.Test.YtakdnpafdadblaaGreatErr2
import Derived.KernelRfl
set_option linter.unusedSimpArgs false
set_option linter.unusedVariables false
set_option linter.unusedSectionVars false
namespace Go.Proofs.YtakdnpafdadblaaGreat.EV
open Go
noncomputable def b28_0 : C := (.seq (.seq (.reg [⟨some 7, .mv (.tmp 4),none⟩, ⟨some 8, .bin .lss (.tmp 7) (.const (.int .i64 8)),none⟩] [2, 3, 4, 8]) (.cnd (.tmp 8) .nop (.exi 0))) (.seq (.blk 1 (.reg [⟨some 11, .fa 7 (.tmp 3),none⟩, ⟨some 12, .ld none (.tmp 11) [],none⟩, ⟨some 13, .bld [(.int .u64 0),(.int .u64 0),(.int .u64 0),(.int .u64 0)] [(0, 1, (.const (.int .u64 0))),(1, 1, (.const (.int .u64 1)))],none⟩, ⟨some 14, .bld [(.int .i64 0),(.int .u64 0),(.int .u64 0),(.int .u64 0),(.int .u64 0)] [(1, 4, (.tmp 13))],none⟩, ⟨some 15, .bldS 5 [(.int .i64 0),(.int .u64 0),(.int .u64 0),(.int .u64 0),(.int .u64 0)] 1 [(0, (.tmp 14))],none⟩, ⟨some 16, .app 5 (.tmp 12) (.tmp 15) [],none⟩, ⟨some 17, .fa 7 (.tmp 3),none⟩, ⟨none, .st 1 (.tmp 17) (.tmp 16) [],none⟩] [2, 3, 4])) (.reg [⟨some 9, .mv (.tmp 4),none⟩, ⟨some 10, .bin .add (.tmp 9) (.const (.int .i64 1)),none⟩, ⟨some 4, .mv (.tmp 10),none⟩] [2, 3, 4])))
noncomputable def c28 : C := (.seq (.reg [⟨some 2, .new [(.int .i64 0),(.int .i64 0),(.int .u64 0),(.int .u64 0),(.int .u64 0),(.int .u64 0),(.int .i64 0),(.slice none 0 0),(.slice none 0 0),(.slice none 0 0)],none⟩] [0, 2]) (.seq (.reg [⟨some 5, .mv (.tmp 0),none⟩, ⟨some 6, .bld [(.int .i64 0),(.int .i64 0),(.int .u64 0),(.int .u64 0),(.int .u64 0),(.int .u64 0),(.int .i64 0),(.slice none 0 0),(.slice none 0 0),(.slice none 0 0)] [(0, 1, (.tmp 5))],none⟩, ⟨some 3, .new [(.int .i64 0),(.int .i64 0),(.int .u64 0),(.int .u64 0),(.int .u64 0),(.int .u64 0),(.int .i64 0),(.slice none 0 0),(.slice none 0 0),(.slice none 0 0)],none⟩, ⟨none, .st 10 (.tmp 3) (.tmp 6) [],none⟩] [2, 3]) (.seq (.seq (.reg [⟨some 4, .mv (.const (.int .i64 0)),none⟩] [2, 3, 4]) (.blk 0 (.lop b28_0))) (.seq (.reg [⟨some 18, .ld (some 10) (.tmp 3) [],none⟩, ⟨none, .st 10 (.tmp 2) (.tmp 18) [],none⟩] [2]) .ret))))
noncomputable def fd28 : FD := ⟨1, c28, [.cell 2 (some 10)]⟩
noncomputable def b32_0 : C := (.seq (.seq (.reg [⟨some 12, .mv (.tmp 7),none⟩, ⟨some 13, .fa 8 (.tmp 2),none⟩, ⟨some 14, .ld none (.tmp 13) [],none⟩, ⟨some 15, .len (.tmp 14),none⟩, ⟨some 16, .bin .lss (.tmp 12) (.tmp 15),none⟩] [2, 3, 4, 5, 6, 7, 16]) (.cnd (.tmp 16) .nop (.exi 0))) (.seq (.blk 1 (.seq (.reg [⟨some 19, .fa 8 (.tmp 2),none⟩, ⟨some 20, .ld none (.tmp 19) [],none⟩, ⟨some 21, .mv (.tmp 7),none⟩, ⟨some 22, .ia 21 (.tmp 20) (.tmp 21),none⟩, ⟨some 23, .ld (some 21) (.tmp 22) [],none⟩, ⟨some 8, .new [(.int .i64 0),(.int .i64 0),(.int .u64 0),(.int .u64 0),(.int .u64 0),(.int .u64 0),(.int .u64 0),(.int .u64 0),(.int .u64 0),(.int .u64 0),(.int .u64 0),(.int .u64 0),(.int .u64 0),(.int .u64 0),(.int .u64 0),(.int .u64 0),(.int .u64 0),(.int .u64 0),(.int .i64 0),(.slice none 0 0),(.slice none 0 0)],none⟩, ⟨none, .st 21 (.tmp 8) (.tmp 23) [],none⟩] [2, 3, 4, 5, 6, 7, 8]) (.seq (.seq (.reg [⟨some 24, .mv (.tmp 6),none⟩, ⟨some 25, .not (.tmp 24),none⟩, ⟨some 26, .mv (.tmp 25),none⟩, ⟨some 27, .fa 0 (.tmp 8),some (26, true)⟩, ⟨some 28, .ld none (.tmp 27) [],some (26, true)⟩, ⟨some 29, .fa 0 (.tmp 3),some (26, true)⟩, ⟨some 30, .ld none (.tmp 29) [],some (26, true)⟩, ⟨some 31, .bin .gtr (.tmp 28) (.tmp 30),some (26, true)⟩, ⟨some 32, .mv (.tmp 31),some (26, true)⟩, ⟨some 33, .fa 0 (.tmp 8),some (32, false)⟩, ⟨some 34, .ld none (.tmp 33) [],some (32, false)⟩, ⟨some 35, .fa 0 (.tmp 3),some (32, false)⟩, ⟨some 36, .ld none (.tmp 35) [],some (32, false)⟩, ⟨some 37, .bin .eql (.tmp 34) (.tmp 36),some (32, false)⟩, ⟨some 38, .mv (.tmp 37),some (32, false)⟩, ⟨some 39, .fa 1 (.tmp 8),some (38, true)⟩, ⟨some 40, .ld none (.tmp 39) [],some (38, true)⟩, ⟨some 41, .fa 1 (.tmp 3),some (38, true)⟩, ⟨some 42, .ld none (.tmp 41) [],some (38, true)⟩, ⟨some 43, .bin .geq (.tmp 40) (.tmp 42),some (38, true)⟩, ⟨some 44, .pick (.tmp 38) (.tmp 43) (.const (.bool false)),some (32, false)⟩, ⟨some 45, .pick (.tmp 32) (.const (.bool true)) (.tmp 44),some (26, true)⟩, ⟨some 46, .pick (.tmp 26) (.tmp 45) (.const (.bool false)),none⟩] [2, 3, 4, 5, 6, 7, 8, 46]) (.cnd (.tmp 46) (.seq (.reg [⟨some 47, .fa 8 (.tmp 5),none⟩, ⟨some 48, .ld none (.tmp 47) [],none⟩, ⟨some 49, .ld (some 21) (.tmp 3) [],none⟩, ⟨some 50, .cal 63 [(.tmp 49)] true [],none⟩, ⟨some 51, .bldS 21 [(.int .i64 0),(.int .i64 0),(.int .u64 0),(.int .u64 0),(.int .u64 0),(.int .u64 0),(.int .u64 0),(.int .u64 0),(.int .u64 0),(.int .u64 0),(.int .u64 0),(.int .u64 0),(.int .u64 0),(.int .u64 0),(.int .u64 0),(.int .u64 0),(.int .u64 0),(.int .u64 0),(.int .i64 0),(.slice none 0 0),(.slice none 0 0)] 1 [(0, (.tmp 50))],none⟩, ⟨some 52, .app 21 (.tmp 48) (.tmp 51) [],none⟩, ⟨some 53, .fa 8 (.tmp 5),none⟩, ⟨none, .st 1 (.tmp 53) (.tmp 52) [],none⟩] [2, 3, 4, 5, 7, 8]) (.reg [⟨some 6, .mv (.const (.bool true)),none⟩] [2, 3, 4, 5, 6, 7, 8])) .nop)) (.seq (.reg [⟨some 54, .fa 0 (.tmp 8),none⟩, ⟨some 55, .ld none (.tmp 54) [],none⟩, ⟨some 56, .fa 0 (.tmp 3),none⟩, ⟨some 57, .ld none (.tmp 56) [],none⟩, ⟨some 58, .bin .neq (.tmp 55) (.tmp 57),none⟩, ⟨some 59, .mv (.tmp 58),none⟩, ⟨some 60, .fa 1 (.tmp 8),some (59, false)⟩, ⟨some 61, .ld none (.tmp 60) [],some (59, false)⟩, ⟨some 62, .fa 1 (.tmp 3),some (59, false)⟩, ⟨some 63, .ld none (.tmp 62) [],some (59, false)⟩, ⟨some 64, .bin .neq (.tmp 61) (.tmp 63),some (59, false)⟩, ⟨some 65, .pick (.tmp 59) (.const (.bool true)) (.tmp 64),none⟩] [2, 3, 4, 5, 6, 7, 8, 65]) (.cnd (.tmp 65) (.reg [⟨some 66, .fa 8 (.tmp 5),none⟩, ⟨some 67, .ld none (.tmp 66) [],none⟩, ⟨some 68, .ld (some 21) (.tmp 8) [],none⟩, ⟨some 69, .cal 63 [(.tmp 68)] true [],none⟩, ⟨some 70, .bldS 21 [(.int .i64 0),(.int .i64 0),(.int .u64 0),(.int .u64 0),(.int .u64 0),(.int .u64 0),(.int .u64 0),(.int .u64 0),(.int .u64 0),(.int .u64 0),(.int .u64 0),(.int .u64 0),(.int .u64 0),(.int .u64 0),(.int .u64 0),(.int .u64 0),(.int .u64 0),(.int .u64 0),(.int .i64 0),(.slice none 0 0),(.slice none 0 0)] 1 [(0, (.tmp 69))],none⟩, ⟨some 71, .app 21 (.tmp 67) (.tmp 70) [],none⟩, ⟨some 72, .fa 8 (.tmp 5),none⟩, ⟨none, .st 1 (.tmp 72) (.tmp 71) [],none⟩] [2, 3, 4, 5, 6, 7]) .nop))))) (.reg [⟨some 17, .mv (.tmp 7),none⟩, ⟨some 18, .bin .add (.tmp 17) (.const (.int .i64 1)),none⟩, ⟨some 7, .mv (.tmp 18),none⟩] [2, 3, 4, 5, 6, 7])))
noncomputable def c32 : C := (.seq (.reg [⟨some 2, .box (.tmp 0),none⟩, ⟨some 3, .box (.tmp 1),none⟩, ⟨some 4, .new [(.int .i64 0),(.int .i64 0),(.int .u64 0),(.int .u64 0),(.int .u64 0),(.int .u64 0),(.int .i64 0),(.slice none 0 0),(.slice none 0 0),(.slice none 0 0)],none⟩] [2, 3, 4]) (.seq (.reg [⟨some 9, .ld (some 10) (.tmp 2) [],none⟩, ⟨some 10, .cal 33 [(.tmp 9)] true [],none⟩, ⟨some 5, .new [(.int .i64 0),(.int .i64 0),(.int .u64 0),(.int .u64 0),(.int .u64 0),(.int .u64 0),(.int .i64 0),(.slice none 0 0),(.slice none 0 0),(.slice none 0 0)],none⟩, ⟨none, .st 10 (.tmp 5) (.tmp 10) [],none⟩] [2, 3, 4, 5]) (.seq (.reg [⟨some 11, .fa 8 (.tmp 5),none⟩, ⟨none, .st 1 (.tmp 11) (.const (.slice none 0 0)) [],none⟩] [2, 3, 4, 5]) (.seq (.reg [⟨some 6, .mv (.const (.bool false)),none⟩] [2, 3, 4, 5, 6]) (.seq (.seq (.reg [⟨some 7, .mv (.const (.int .i64 0)),none⟩] [2, 3, 4, 5, 6, 7]) (.blk 0 (.lop b32_0))) (.seq (.seq (.reg [⟨some 73, .mv (.tmp 6),none⟩, ⟨some 74, .not (.tmp 73),none⟩] [3, 4, 5, 74]) (.cnd (.tmp 74) (.reg [⟨some 75, .fa 8 (.tmp 5),none⟩, ⟨some 76, .ld none (.tmp 75) [],none⟩, ⟨some 77, .ld (some 21) (.tmp 3) [],none⟩, ⟨some 78, .cal 63 [(.tmp 77)] true [],none⟩, ⟨some 79, .bldS 21 [(.int .i64 0),(.int .i64 0),(.int .u64 0),(.int .u64 0),(.int .u64 0),(.int .u64 0),(.int .u64 0),(.int .u64 0),(.int .u64 0),(.int .u64 0),(.int .u64 0),(.int .u64 0),(.int .u64 0),(.int .u64 0),(.int .u64 0),(.int .u64 0),(.int .u64 0),(.int .u64 0),(.int .i64 0),(.slice none 0 0),(.slice none 0 0)] 1 [(0, (.tmp 78))],none⟩, ⟨some 80, .app 21 (.tmp 76) (.tmp 79) [],none⟩, ⟨some 81, .fa 8 (.tmp 5),none⟩, ⟨none, .st 1 (.tmp 81) (.tmp 80) [],none⟩] [4, 5]) .nop)) (.seq (.reg [⟨some 82, .ld (some 10) (.tmp 5) [],none⟩, ⟨none, .st 10 (.tmp 4) (.tmp 82) [],none⟩] [4]) .ret)))))))
noncomputable def fd32 : FD := ⟨2, c32, [.cell 4 (some 10)]⟩
noncomputable def c36 : C := (.seq (.reg [⟨some 0, .mv (.const (.bool false)),none⟩] []) (.seq (.reg [⟨some 1, .cal 28 [(.const (.int .i64 1024))] true [],none⟩, ⟨some 2, .cal 31 [(.const (.int .i64 1)),(.const (.int .i64 1)),(.const (.int .u64 2))] true [],none⟩, ⟨some 3, .cal 30 [(.tmp 1),(.tmp 2)] true [],none⟩, ⟨some 4, .cal 29 [(.tmp 3)] true [],none⟩, ⟨some 5, .bin .eql (.tmp 4) (.const (.int .i64 10)),none⟩, ⟨some 6, .mv (.tmp 5),none⟩, ⟨some 7, .cal 28 [(.const (.int .i64 1024))] true [],some (6, true)⟩, ⟨some 8, .cal 31 [(.const (.int .i64 1)),(.const (.int .i64 0)),(.const (.int .u64 2))] true [],some (6, true)⟩, ⟨some 9, .cal 30 [(.tmp 7),(.tmp 8)] true [],some (6, true)⟩, ⟨some 10, .cal 29 [(.tmp 9)] true [],some (6, true)⟩, ⟨some 11, .bin .eql (.tmp 10) (.const (.int .i64 0)),some (6, true)⟩, ⟨some 12, .pick (.tmp 6) (.tmp 11) (.const (.bool false)),none⟩, ⟨some 0, .mv (.tmp 12),none⟩] [0]) .ret))
noncomputable def fd36 : FD := ⟨0, c36, [.tmp 0]⟩
noncomputable def b60_0 : C := (.seq (.seq (.reg [⟨some 5, .mv (.tmp 4),none⟩, ⟨some 6, .mv (.tmp 0),none⟩, ⟨some 7, .len (.tmp 6),none⟩, ⟨some 8, .bin .lss (.tmp 5) (.tmp 7),none⟩] [0, 3, 4, 8]) (.cnd (.tmp 8) .nop (.exi 0))) (.seq (.blk 1 (.reg [⟨some 11, .mv (.tmp 3),none⟩, ⟨some 12, .mv (.tmp 0),none⟩, ⟨some 13, .mv (.tmp 4),none⟩, ⟨some 14, .ia 5 (.tmp 12) (.tmp 13),none⟩, ⟨some 15, .ld (some 5) (.tmp 14) [],none⟩, ⟨some 16, .bldS 5 [(.int .i64 0),(.int .u64 0),(.int .u64 0),(.int .u64 0),(.int .u64 0)] 1 [(0, (.tmp 15))],none⟩, ⟨some 17, .app 5 (.tmp 11) (.tmp 16) [],none⟩, ⟨some 3, .mv (.tmp 17),none⟩] [0, 3, 4])) (.reg [⟨some 9, .mv (.tmp 4),none⟩, ⟨some 10, .bin .add (.tmp 9) (.const (.int .i64 1)),none⟩, ⟨some 4, .mv (.tmp 10),none⟩] [0, 3, 4])))
noncomputable def c60 : C := (.seq (.reg [⟨some 2, .mv (.const (.slice none 0 0)),none⟩] [0]) (.seq (.reg [⟨some 3, .mv (.const (.slice none 0 0)),none⟩] [0, 3]) (.seq (.seq (.reg [⟨some 4, .mv (.const (.int .i64 0)),none⟩] [0, 3, 4]) (.blk 0 (.lop b60_0))) (.seq (.reg [⟨some 18, .mv (.tmp 3),none⟩, ⟨some 2, .mv (.tmp 18),none⟩] [2]) .ret))))
noncomputable def fd60 : FD := ⟨1, c60, [.tmp 2]⟩
noncomputable def b92_0 : C := (.seq (.reg [⟨some 19, .bin .lss (.tmp 18) (.const (.int .i64 3)),none⟩] [5, 17, 18, 19]) (.seq (.cnd (.tmp 19) .nop (.exi 0)) (.seq (.blk 1 (.seq (.reg [⟨some 20, .mv (.tmp 18),none⟩, ⟨some 21, .ix 3 4 (some 4) (.tmp 17) (.tmp 18),none⟩, ⟨some 7, .new [(.int .u64 0),(.int .u64 0),(.int .u64 0),(.int .u64 0)],none⟩, ⟨some 6, .mv (.tmp 20),none⟩, ⟨none, .st 4 (.tmp 7) (.tmp 21) [],none⟩] [5, 6, 7, 17, 18]) (.seq (.reg [⟨some 23, .ld (some 4) (.tmp 7) [],none⟩, ⟨some 24, .cal 176 [(.tmp 23)] true [],none⟩, ⟨some 22, .mv (.tmp 24),none⟩, ⟨some 25, .ex (.tmp 22) 0,none⟩, ⟨some 26, .ex (.tmp 22) 1,none⟩, ⟨some 8, .new [(.int .u64 0),(.int .u64 0),(.int .u64 0),(.int .u64 0)],none⟩, ⟨none, .st 4 (.tmp 8) (.tmp 25) [],none⟩, ⟨some 9, .mv (.tmp 26),none⟩] [5, 6, 8, 9, 17, 18]) (.seq (.reg [⟨some 27, .mv (.tmp 9),none⟩, ⟨some 28, .bin .neq (.tmp 27) (.const (.int .i64 0)),none⟩, ⟨some 29, .mv (.tmp 28),none⟩, ⟨some 30, .mv (.tmp 6),some (29, false)⟩, ⟨some 31, .iaa 3 4 (.tmp 5) (.tmp 30),some (29, false)⟩, ⟨some 32, .ld (some 4) (.tmp 31) [],some (29, false)⟩, ⟨some 33, .ld (some 4) (.tmp 8) [],some (29, false)⟩, ⟨some 34, .cal 102 [(.tmp 32),(.tmp 33)] true [],some (29, false)⟩, ⟨some 35, .bin .lss (.tmp 34) (.const (.int .i64 0)),some (29, false)⟩, ⟨some 36, .pick (.tmp 29) (.const (.bool true)) (.tmp 35),none⟩] [5, 17, 18, 36]) (.cnd (.tmp 36) (.seq (.reg [⟨some 4, .mv (.const (.int .i64 11)),none⟩] [4]) .ret) .nop))))) (.reg [⟨some 37, .bin .add (.tmp 18) (.const (.int .i64 1)),none⟩, ⟨some 18, .mv (.tmp 37),none⟩] [5, 17, 18]))))
noncomputable def c92 : C := (.seq (.reg [⟨some 2, .box (.tmp 0),none⟩, ⟨some 3, .box (.tmp 1),none⟩, ⟨some 4, .mv (.const (.int .i64 0)),none⟩] [2, 3]) (.seq (.seq (.reg [⟨some 10, .ld (some 21) (.tmp 2) [],none⟩, ⟨some 11, .ld (some 21) (.tmp 3) [],none⟩, ⟨some 12, .cal 174 [(.tmp 10),(.tmp 11)] true [],none⟩, ⟨some 13, .not (.tmp 12),none⟩] [2, 3, 13]) (.cnd (.tmp 13) (.seq (.reg [⟨some 4, .mv (.const (.int .i64 1)),none⟩] [4]) .ret) .nop)) (.seq (.reg [⟨some 14, .ld (some 21) (.tmp 3) [],none⟩, ⟨some 15, .cal 175 [(.tmp 14)] true [],none⟩, ⟨some 5, .new [(.int .u64 0),(.int .u64 0),(.int .u64 0),(.int .u64 0),(.int .u64 0),(.int .u64 0),(.int .u64 0),(.int .u64 0),(.int .u64 0),(.int .u64 0),(.int .u64 0),(.int .u64 0)],none⟩, ⟨none, .st 12 (.tmp 5) (.tmp 15) [],none⟩] [2, 5]) (.seq (.seq (.reg [⟨some 16, .ld (some 21) (.tmp 2) [],none⟩, ⟨some 17, .cal 175 [(.tmp 16)] true [],none⟩, ⟨some 18, .mv (.const (.int .i64 0)),none⟩] [5, 17, 18]) (.blk 0 (.lop b92_0))) (.seq (.reg [⟨some 4, .mv (.const (.int .i64 0)),none⟩] [4]) .ret)))))
noncomputable def fd92 : FD := ⟨2, c92, [.tmp 4]⟩
noncomputable def b96_0 : C := (.seq (.seq (.reg [⟨some 5, .mv (.tmp 4),none⟩, ⟨some 6, .mv (.tmp 0),none⟩, ⟨some 7, .len (.tmp 6),none⟩, ⟨some 8, .bin .lss (.tmp 5) (.tmp 7),none⟩] [0, 3, 4, 8]) (.cnd (.tmp 8) .nop (.exi 0))) (.seq (.blk 1 (.reg [⟨some 11, .mv (.tmp 3),none⟩, ⟨some 12, .mv (.tmp 0),none⟩, ⟨some 13, .mv (.tmp 4),none⟩, ⟨some 14, .ia 22 (.tmp 12) (.tmp 13),none⟩, ⟨some 15, .ld (some 22) (.tmp 14) [],none⟩, ⟨some 16, .cal 179 [(.tmp 15)] true [],none⟩, ⟨some 17, .bldS 22 [(.int .i64 0),(.int .i64 0),(.int .u64 0),(.int .u64 0),(.int .u64 0),(.int .u64 0),(.int .u64 0),(.int .u64 0),(.int .u64 0),(.int .u64 0),(.int .u64 0),(.int .u64 0),(.int .u64 0),(.int .u64 0),(.int .u64 0),(.int .u64 0),(.int .u64 0),(.int .u64 0),(.int .i64 0),(.slice none 0 0),(.slice none 0 0),(.int .i64 0)] 1 [(0, (.tmp 16))],none⟩, ⟨some 18, .app 22 (.tmp 11) (.tmp 17) [],none⟩, ⟨some 3, .mv (.tmp 18),none⟩] [0, 3, 4])) (.reg [⟨some 9, .mv (.tmp 4),none⟩, ⟨some 10, .bin .add (.tmp 9) (.const (.int .i64 1)),none⟩, ⟨some 4, .mv (.tmp 10),none⟩] [0, 3, 4])))
noncomputable def c96 : C := (.seq (.reg [⟨some 2, .mv (.const (.slice none 0 0)),none⟩] [0]) (.seq (.reg [⟨some 3, .mv (.const (.slice none 0 0)),none⟩] [0, 3]) (.seq (.seq (.reg [⟨some 4, .mv (.const (.int .i64 0)),none⟩] [0, 3, 4]) (.blk 0 (.lop b96_0))) (.seq (.reg [⟨some 19, .mv (.tmp 3),none⟩, ⟨some 2, .mv (.tmp 19),none⟩] [2]) .ret))))
noncomputable def fd96 : FD := ⟨1, c96, [.tmp 2]⟩
noncomputable def c116 : C := (.seq (.reg [⟨some 1, .box (.tmp 0),none⟩, ⟨some 2, .mv (.const (.int .i64 0)),none⟩] [1]) (.seq (.blk 0 (.seq (.seq (.reg [⟨some 6, .fa 0 (.tmp 1),none⟩, ⟨some 7, .ld none (.tmp 6) [],none⟩, ⟨some 8, .bin .lss (.tmp 7) (.const (.int .i64 0)),none⟩, ⟨some 9, .mv (.tmp 8),none⟩, ⟨some 10, .fa 0 (.tmp 1),some (9, false)⟩, ⟨some 11, .ld none (.tmp 10) [],some (9, false)⟩, ⟨some 12, .bin .geq (.tmp 11) (.const (.int .i64 8)),some (9, false)⟩, ⟨some 13, .pick (.tmp 9) (.const (.bool true)) (.tmp 12),none⟩, ⟨some 5, .mv (.tmp 13),none⟩] [1, 5]) (.cnd (.tmp 5) .nop (.seq (.reg [⟨some 14, .fa 1 (.tmp 1),none⟩, ⟨some 15, .ld none (.tmp 14) [],none⟩, ⟨some 16, .bin .lss (.tmp 15) (.const (.int .i64 0)),none⟩, ⟨some 17, .mv (.tmp 16),none⟩, ⟨some 18, .fa 1 (.tmp 1),some (17, false)⟩, ⟨some 19, .ld none (.tmp 18) [],some (17, false)⟩, ⟨some 20, .bin .gtr (.tmp 19) (.const (.int .i64 1099511627776)),some (17, false)⟩, ⟨some 21, .pick (.tmp 17) (.const (.bool true)) (.tmp 20),none⟩, ⟨some 5, .mv (.tmp 21),none⟩] [1, 5]) (.cnd (.tmp 5) .nop (.reg [⟨some 22, .fa 18 (.tmp 1),none⟩, ⟨some 23, .ld none (.tmp 22) [],none⟩, ⟨some 24, .bin .lss (.tmp 23) (.const (.int .i64 0)),none⟩, ⟨some 25, .mv (.tmp 24),none⟩, ⟨some 26, .fa 18 (.tmp 1),some (25, false)⟩, ⟨some 27, .ld none (.tmp 26) [],some (25, false)⟩, ⟨some 28, .bin .gtr (.tmp 27) (.const (.int .i64 1073741824)),some (25, false)⟩, ⟨some 29, .pick (.tmp 25) (.const (.bool true)) (.tmp 28),none⟩, ⟨some 5, .mv (.tmp 29),none⟩] [1, 5]))))) (.cnd (.tmp 5) (.seq (.reg [⟨some 2, .mv (.const (.int .i64 1)),none⟩] [2]) .ret) (.seq (.seq (.reg [⟨some 31, .fa 2 (.tmp 1),none⟩, ⟨some 32, .ld (some 4) (.tmp 31) [],none⟩, ⟨some 33, .fa 6 (.tmp 1),none⟩, ⟨some 34, .ld (some 4) (.tmp 33) [],none⟩, ⟨some 35, .cal 102 [(.tmp 32),(.tmp 34)] true [],none⟩, ⟨some 36, .bin .gtr (.tmp 35) (.const (.int .i64 0)),none⟩, ⟨some 30, .mv (.tmp 36),none⟩] [1, 30]) (.cnd (.tmp 30) .nop (.reg [⟨some 37, .fa 19 (.tmp 1),none⟩, ⟨some 38, .ld none (.tmp 37) [],none⟩, ⟨some 39, .fa 20 (.tmp 1),none⟩, ⟨some 40, .ld none (.tmp 39) [],none⟩, ⟨some 41, .cal 190 [(.tmp 38),(.tmp 40)] true [],none⟩, ⟨some 42, .bin .neq (.tmp 41) (.const (.int .i64 0)),none⟩, ⟨some 30, .mv (.tmp 42),none⟩] [1, 30]))) (.cnd (.tmp 30) (.seq (.reg [⟨some 2, .mv (.const (.int .i64 1)),none⟩] [2]) .ret) .nop))))) (.seq (.seq (.reg [⟨some 44, .ld (some 21) (.tmp 1) [],none⟩, ⟨some 45, .cal 191 [(.tmp 44)] true [],none⟩, ⟨some 43, .mv (.tmp 45),none⟩, ⟨some 46, .ex (.tmp 43) 0,none⟩, ⟨some 47, .ex (.tmp 43) 1,none⟩, ⟨some 3, .new [(.int .u64 0),(.int .u64 0),(.int .u64 0),(.int .u64 0)],none⟩, ⟨none, .st 4 (.tmp 3) (.tmp 46) [],none⟩, ⟨some 4, .mv (.tmp 47),none⟩] [4]) (.seq (.reg [⟨some 48, .mv (.tmp 4),none⟩, ⟨some 49, .not (.tmp 48),none⟩] [49]) (.cnd (.tmp 49) (.seq (.reg [⟨some 2, .mv (.const (.int .i64 1)),none⟩] [2]) .ret) .nop))) (.seq (.reg [⟨some 2, .mv (.const (.int .i64 0)),none⟩] [2]) .ret))))
noncomputable def fd116 : FD := ⟨1, c116, [.tmp 2]⟩
noncomputable def b125_0 : C := (.seq (.reg [⟨some 3, .mv (.tmp 37),none⟩] [1, 2, 3, 38]) (.reg [⟨some 4, .mv (.tmp 38),none⟩] [1, 2, 3, 4]))
noncomputable def b125_1 : C := (.blk 1 (.seq (.seq (.reg [⟨some 39, .mv (.tmp 3),none⟩, ⟨some 40, .bin .lss (.tmp 39) (.const (.int .i64 0)),none⟩] [1, 2, 3, 4, 40]) (.cnd (.tmp 40) (.seq (.reg [⟨none, .st 1 (.tmp 2) (.const (.bool false)) [],none⟩] []) .ret) .nop)) (.seq (.reg [⟨some 42, .mv (.tmp 4),none⟩, ⟨some 43, .cal 201 [(.tmp 42)] true [],none⟩, ⟨some 41, .mv (.tmp 43),none⟩, ⟨some 44, .ex (.tmp 41) 0,none⟩, ⟨some 45, .ex (.tmp 41) 1,none⟩, ⟨some 5, .new [(.int .u64 0),(.int .u64 0),(.int .u64 0),(.int .u64 0)],none⟩, ⟨none, .st 4 (.tmp 5) (.tmp 44) [],none⟩, ⟨some 6, .mv (.tmp 45),none⟩] [1, 2, 3, 4, 5, 6]) (.seq (.reg [⟨some 46, .mv (.tmp 6),none⟩, ⟨some 47, .bin .neq (.tmp 46) (.const (.int .i64 0)),none⟩, ⟨some 48, .mv (.tmp 47),none⟩, ⟨some 49, .mv (.tmp 4),some (48, false)⟩, ⟨some 50, .ia 21 (.tmp 49) (.const (.int .i64 0)),some (48, false)⟩, ⟨some 51, .fa 1 (.tmp 50),some (48, false)⟩, ⟨some 52, .ld none (.tmp 51) [],some (48, false)⟩, ⟨some 53, .fa 7 (.tmp 1),some (48, false)⟩, ⟨some 54, .ld none (.tmp 53) [],some (48, false)⟩, ⟨some 55, .mv (.tmp 3),some (48, false)⟩, ⟨some 56, .ia 5 (.tmp 54) (.tmp 55),some (48, false)⟩, ⟨some 57, .fa 0 (.tmp 56),some (48, false)⟩, ⟨some 58, .ld none (.tmp 57) [],some (48, false)⟩, ⟨some 59, .bin .neq (.tmp 52) (.tmp 58),some (48, false)⟩, ⟨some 60, .pick (.tmp 48) (.const (.bool true)) (.tmp 59),none⟩, ⟨some 61, .mv (.tmp 60),none⟩, ⟨some 62, .ld (some 4) (.tmp 5) [],some (61, false)⟩, ⟨some 63, .fa 7 (.tmp 1),some (61, false)⟩, ⟨some 64, .ld none (.tmp 63) [],some (61, false)⟩, ⟨some 65, .mv (.tmp 3),some (61, false)⟩, ⟨some 66, .ia 5 (.tmp 64) (.tmp 65),some (61, false)⟩, ⟨some 67, .fa 1 (.tmp 66),some (61, false)⟩, ⟨some 68, .ld (some 4) (.tmp 67) [],some (61, false)⟩, ⟨some 69, .cal 102 [(.tmp 62),(.tmp 68)] true [],some (61, false)⟩, ⟨some 70, .bin .gtr (.tmp 69) (.const (.int .i64 0)),some (61, false)⟩, ⟨some 71, .pick (.tmp 61) (.const (.bool true)) (.tmp 70),none⟩] [2, 71]) (.cnd (.tmp 71) (.seq (.reg [⟨none, .st 1 (.tmp 2) (.const (.bool false)) [],none⟩] []) .ret) .nop)))))
noncomputable def b125_2 : C := (.seq (.reg [⟨some 79, .bin .lss (.tmp 78) (.tmp 77),none⟩] [1, 2, 7, 76, 77, 78, 79]) (.seq (.cnd (.tmp 79) .nop (.exi 2)) (.seq (.blk 3 (.seq (.reg [⟨some 80, .ia 22 (.tmp 76) (.tmp 78),none⟩, ⟨some 81, .ld (some 22) (.tmp 80) [],none⟩, ⟨some 9, .new [(.int .i64 0),(.int .i64 0),(.int .u64 0),(.int .u64 0),(.int .u64 0),(.int .u64 0),(.int .u64 0),(.int .u64 0),(.int .u64 0),(.int .u64 0),(.int .u64 0),(.int .u64 0),(.int .u64 0),(.int .u64 0),(.int .u64 0),(.int .u64 0),(.int .u64 0),(.int .u64 0),(.int .i64 0),(.slice none 0 0),(.slice none 0 0),(.int .i64 0)],none⟩, ⟨none, .st 22 (.tmp 9) (.tmp 81) [],none⟩] [1, 2, 7, 9, 76, 77, 78]) (.seq (.reg [⟨some 83, .fa 0 (.tmp 9),none⟩, ⟨some 84, .ld (some 21) (.tmp 83) [],none⟩, ⟨some 85, .cal 89 [(.tmp 84)] true [],none⟩, ⟨some 82, .mv (.tmp 85),none⟩, ⟨some 86, .ex (.tmp 82) 0,none⟩, ⟨some 87, .ex (.tmp 82) 1,none⟩, ⟨some 10, .mv (.tmp 86),none⟩, ⟨some 11, .mv (.tmp 87),none⟩] [1, 2, 7, 10, 76, 77, 78]) (.reg [⟨some 88, .mv (.tmp 7),none⟩, ⟨some 89, .mv (.tmp 10),none⟩, ⟨some 90, .bldS 1 [(.int .u64 0)] 1 [(0, (.tmp 89))],none⟩, ⟨some 91, .app 1 (.tmp 88) (.tmp 90) [],none⟩, ⟨some 7, .mv (.tmp 91),none⟩] [1, 2, 7, 76, 77, 78])))) (.reg [⟨some 92, .bin .add (.tmp 78) (.const (.int .i64 1)),none⟩, ⟨some 78, .mv (.tmp 92),none⟩] [1, 2, 7, 76, 77, 78]))))
noncomputable def c125 : C := (.seq (.reg [⟨some 1, .box (.tmp 0),none⟩, ⟨some 2, .new [(.bool false)],none⟩] [1, 2]) (.seq (.seq (.reg [⟨some 12, .fa 1 (.tmp 1),none⟩, ⟨some 13, .ld (some 6) (.tmp 12) [],none⟩, ⟨some 14, .cal 126 [(.tmp 13)] true [],none⟩, ⟨some 15, .not (.tmp 14),none⟩, ⟨some 16, .mv (.tmp 15),none⟩, ⟨some 17, .fa 7 (.tmp 1),some (16, false)⟩, ⟨some 18, .ld none (.tmp 17) [],some (16, false)⟩, ⟨some 19, .cal 127 [(.tmp 18)] true [],some (16, false)⟩, ⟨some 20, .not (.tmp 19),some (16, false)⟩, ⟨some 21, .pick (.tmp 16) (.const (.bool true)) (.tmp 20),none⟩, ⟨some 22, .mv (.tmp 21),none⟩, ⟨some 23, .fa 9 (.tmp 1),some (22, false)⟩, ⟨some 24, .ld none (.tmp 23) [],some (22, false)⟩, ⟨some 25, .cal 199 [(.tmp 24)] true [],some (22, false)⟩, ⟨some 26, .not (.tmp 25),some (22, false)⟩, ⟨some 27, .pick (.tmp 22) (.const (.bool true)) (.tmp 26),none⟩, ⟨some 28, .mv (.tmp 27),none⟩, ⟨some 29, .fa 8 (.tmp 1),some (28, false)⟩, ⟨some 30, .ld none (.tmp 29) [],some (28, false)⟩, ⟨some 31, .len (.tmp 30),some (28, false)⟩, ⟨some 32, .bin .gtr (.tmp 31) (.const (.int .i64 48)),some (28, false)⟩, ⟨some 33, .pick (.tmp 28) (.const (.bool true)) (.tmp 32),none⟩] [1, 2, 33]) (.cnd (.tmp 33) (.seq (.reg [⟨none, .st 1 (.tmp 2) (.const (.bool false)) [],none⟩] [2]) .ret) .nop)) (.seq (.seq (.reg [⟨some 34, .fa 8 (.tmp 1),none⟩, ⟨some 35, .ld none (.tmp 34) [],none⟩, ⟨some 36, .cal 200 [(.tmp 35)] true [],none⟩] [1, 2, 36]) (.blk 0 (.rf (.tmp 36) [37, 38] b125_0 b125_1))) (.seq (.reg [⟨some 72, .fa 8 (.tmp 1),none⟩, ⟨some 73, .ld none (.tmp 72) [],none⟩, ⟨some 74, .cal 137 [(.tmp 73)] true [],none⟩, ⟨some 7, .mv (.tmp 74),none⟩] [1, 2, 7]) (.seq (.seq (.reg [⟨some 75, .fa 9 (.tmp 1),none⟩, ⟨some 76, .ld none (.tmp 75) [],none⟩, ⟨some 77, .len (.tmp 76),none⟩, ⟨some 78, .mv (.const (.int .i64 0)),none⟩] [1, 2, 7, 76, 77, 78]) (.blk 2 (.lop b125_2))) (.seq (.reg [⟨some 93, .mv (.tmp 7),none⟩, ⟨some 94, .cal 202 [(.tmp 93)] false [],none⟩] [1, 2, 7]) (.seq (.reg [⟨some 95, .mv (.tmp 7),none⟩, ⟨some 96, .cal 203 [(.tmp 95)] false [(.tmp 1),(.tmp 1)],none⟩, ⟨some 97, .len (.tmp 96),none⟩, ⟨some 98, .fa 8 (.tmp 1),none⟩, ⟨some 99, .ld none (.tmp 98) [],none⟩, ⟨some 100, .len (.tmp 99),none⟩, ⟨some 101, .fa 9 (.tmp 1),none⟩, ⟨some 102, .ld none (.tmp 101) [],none⟩, ⟨some 103, .len (.tmp 102),none⟩, ⟨some 104, .bin .add (.tmp 100) (.tmp 103),none⟩, ⟨some 105, .bin .eql (.tmp 97) (.tmp 104),none⟩, ⟨none, .st 1 (.tmp 2) (.tmp 105) [],none⟩] [2]) .ret)))))))
noncomputable def fd125 : FD := ⟨1, c125, [.cell 2 none]⟩
noncomputable def b133_0 : C := (.seq (.seq (.reg [⟨some 5, .mv (.tmp 4),none⟩, ⟨some 6, .mv (.tmp 0),none⟩, ⟨some 7, .len (.tmp 6),none⟩, ⟨some 8, .bin .lss (.tmp 5) (.tmp 7),none⟩] [0, 3, 4, 8]) (.cnd (.tmp 8) .nop (.exi 0))) (.seq (.blk 1 (.reg [⟨some 11, .mv (.tmp 3),none⟩, ⟨some 12, .mv (.tmp 0),none⟩, ⟨some 13, .mv (.tmp 4),none⟩, ⟨some 14, .ia 1 (.tmp 12) (.tmp 13),none⟩, ⟨some 15, .ld none (.tmp 14) [],none⟩, ⟨some 16, .bldS 1 [(.string ⟨#[]⟩)] 1 [(0, (.tmp 15))],none⟩, ⟨some 17, .app 1 (.tmp 11) (.tmp 16) [],none⟩, ⟨some 3, .mv (.tmp 17),none⟩] [0, 3, 4])) (.reg [⟨some 9, .mv (.tmp 4),none⟩, ⟨some 10, .bin .add (.tmp 9) (.const (.int .i64 1)),none⟩, ⟨some 4, .mv (.tmp 10),none⟩] [0, 3, 4])))
noncomputable def c133 : C := (.seq (.reg [⟨some 2, .mv (.const (.slice none 0 0)),none⟩] [0]) (.seq (.reg [⟨some 3, .mv (.const (.slice none 0 0)),none⟩] [0, 3]) (.seq (.seq (.reg [⟨some 4, .mv (.const (.int .i64 0)),none⟩] [0, 3, 4]) (.blk 0 (.lop b133_0))) (.seq (.reg [⟨some 18, .mv (.tmp 3),none⟩, ⟨some 2, .mv (.tmp 18),none⟩] [2]) .ret))))
noncomputable def fd133 : FD := ⟨1, c133, [.tmp 2]⟩
noncomputable def b137_0 : C := (.seq (.reg [⟨some 11, .bin .lss (.tmp 10) (.tmp 9),none⟩] [3, 8, 9, 10, 11]) (.seq (.cnd (.tmp 11) .nop (.exi 0)) (.seq (.blk 1 (.seq (.reg [⟨some 12, .ia 21 (.tmp 8) (.tmp 10),none⟩, ⟨some 13, .ld (some 21) (.tmp 12) [],none⟩, ⟨some 5, .new [(.int .i64 0),(.int .i64 0),(.int .u64 0),(.int .u64 0),(.int .u64 0),(.int .u64 0),(.int .u64 0),(.int .u64 0),(.int .u64 0),(.int .u64 0),(.int .u64 0),(.int .u64 0),(.int .u64 0),(.int .u64 0),(.int .u64 0),(.int .u64 0),(.int .u64 0),(.int .u64 0),(.int .i64 0),(.slice none 0 0),(.slice none 0 0)],none⟩, ⟨none, .st 21 (.tmp 5) (.tmp 13) [],none⟩] [3, 5, 8, 9, 10]) (.seq (.reg [⟨some 15, .ld (some 21) (.tmp 5) [],none⟩, ⟨some 16, .cal 89 [(.tmp 15)] true [],none⟩, ⟨some 14, .mv (.tmp 16),none⟩, ⟨some 17, .ex (.tmp 14) 0,none⟩, ⟨some 18, .ex (.tmp 14) 1,none⟩, ⟨some 6, .mv (.tmp 17),none⟩, ⟨some 7, .mv (.tmp 18),none⟩] [3, 6, 8, 9, 10]) (.reg [⟨some 19, .mv (.tmp 3),none⟩, ⟨some 20, .mv (.tmp 6),none⟩, ⟨some 21, .bldS 1 [(.int .u64 0)] 1 [(0, (.tmp 20))],none⟩, ⟨some 22, .app 1 (.tmp 19) (.tmp 21) [],none⟩, ⟨some 3, .mv (.tmp 22),none⟩] [3, 8, 9, 10])))) (.reg [⟨some 23, .bin .add (.tmp 10) (.const (.int .i64 1)),none⟩, ⟨some 10, .mv (.tmp 23),none⟩] [3, 8, 9, 10]))))
noncomputable def c137 : C := (.seq (.reg [⟨some 2, .mv (.const (.slice none 0 0)),none⟩] [0]) (.seq (.reg [⟨some 3, .mv (.const (.slice none 0 0)),none⟩] [0, 3]) (.seq (.seq (.reg [⟨some 8, .mv (.tmp 0),none⟩, ⟨some 9, .len (.tmp 8),none⟩, ⟨some 10, .mv (.const (.int .i64 0)),none⟩] [3, 8, 9, 10]) (.blk 0 (.lop b137_0))) (.seq (.reg [⟨some 24, .mv (.tmp 3),none⟩, ⟨some 2, .mv (.tmp 24),none⟩] [2]) .ret))))
noncomputable def fd137 : FD := ⟨1, c137, [.tmp 2]⟩
noncomputable def c149 : C := (.seq (.reg [⟨some 1, .box (.tmp 0),none⟩, ⟨some 2, .mv (.const (.int .i64 0)),none⟩, ⟨some 3, .mv (.const (.int .i64 0)),none⟩, ⟨some 4, .mv (.const (.int .i64 0)),none⟩, ⟨some 5, .mv (.const (.int .i64 0)),none⟩] [1]) (.seq (.reg [⟨some 8, .ld (some 21) (.tmp 1) [],none⟩, ⟨some 9, .cal 169 [(.tmp 8)] true [],none⟩, ⟨some 7, .mv (.tmp 9),none⟩, ⟨some 10, .ex (.tmp 7) 0,none⟩, ⟨some 11, .ex (.tmp 7) 1,none⟩, ⟨some 6, .mv (.tmp 10),none⟩, ⟨some 5, .mv (.tmp 11),none⟩] [5, 6]) (.seq (.seq (.reg [⟨some 12, .mv (.tmp 5),none⟩, ⟨some 13, .bin .neq (.tmp 12) (.const (.int .i64 0)),none⟩] [5, 6, 13]) (.cnd (.tmp 13) (.seq (.reg [⟨some 14, .mv (.tmp 5),none⟩, ⟨some 2, .mv (.const (.int .i64 0)),none⟩, ⟨some 3, .mv (.const (.int .i64 0)),none⟩, ⟨some 4, .mv (.const (.int .i64 0)),none⟩, ⟨some 5, .mv (.tmp 14),none⟩] [2, 3, 4, 5]) .ret) .nop)) (.seq (.reg [⟨some 16, .mv (.tmp 6),none⟩, ⟨some 17, .lens (.tmp 16),none⟩, ⟨some 18, .cal 211 [(.tmp 17)] true [],none⟩, ⟨some 15, .mv (.tmp 18),none⟩, ⟨some 19, .ex (.tmp 15) 0,none⟩, ⟨some 20, .ex (.tmp 15) 1,none⟩, ⟨some 3, .mv (.tmp 19),none⟩, ⟨some 5, .mv (.tmp 20),none⟩] [3, 5, 6]) (.seq (.seq (.reg [⟨some 21, .mv (.tmp 5),none⟩, ⟨some 22, .bin .neq (.tmp 21) (.const (.int .i64 0)),none⟩] [3, 5, 6, 22]) (.cnd (.tmp 22) (.seq (.reg [⟨some 23, .mv (.tmp 5),none⟩, ⟨some 2, .mv (.const (.int .i64 0)),none⟩, ⟨some 3, .mv (.const (.int .i64 0)),none⟩, ⟨some 4, .mv (.const (.int .i64 0)),none⟩, ⟨some 5, .mv (.tmp 23),none⟩] [2, 3, 4, 5]) .ret) .nop)) (.seq (.reg [⟨some 24, .mv (.tmp 6),none⟩, ⟨some 25, .lens (.tmp 24),none⟩, ⟨some 26, .mv (.tmp 3),none⟩, ⟨some 27, .mv (.tmp 3),none⟩, ⟨some 28, .bin .shl (.const (.int .i64 128)) (.tmp 27),none⟩, ⟨some 2, .mv (.tmp 25),none⟩, ⟨some 3, .mv (.tmp 26),none⟩, ⟨some 4, .mv (.tmp 28),none⟩, ⟨some 5, .mv (.const (.int .i64 0)),none⟩] [2, 3, 4, 5]) .ret))))))
noncomputable def fd149 : FD := ⟨1, c149, [.tmp 2, .tmp 3, .tmp 4, .tmp 5]⟩
noncomputable def b169_0 : C := (.seq (.reg [⟨some 21, .bin .lss (.tmp 20) (.tmp 19),none⟩] [1, 5, 6, 18, 19, 20, 21]) (.seq (.cnd (.tmp 21) .nop (.exi 0)) (.seq (.blk 1 (.seq (.reg [⟨some 22, .mv (.tmp 20),none⟩, ⟨some 23, .ia 1 (.tmp 18) (.tmp 20),none⟩, ⟨some 24, .ld none (.tmp 23) [],none⟩, ⟨some 7, .mv (.tmp 22),none⟩, ⟨some 8, .mv (.tmp 24),none⟩] [1, 5, 6, 7, 8, 18, 19, 20]) (.seq (.reg [⟨some 25, .fa 2 (.tmp 5),none⟩, ⟨some 26, .ld none (.tmp 25) [],none⟩, ⟨some 27, .fa 19 (.tmp 1),none⟩, ⟨some 28, .ld none (.tmp 27) [],none⟩, ⟨some 29, .mv (.tmp 7),none⟩, ⟨some 30, .ia 1 (.tmp 28) (.tmp 29),none⟩, ⟨some 31, .ld none (.tmp 30) [],none⟩, ⟨some 32, .cal 231 [(.tmp 31)] true [],none⟩, ⟨some 33, .bld [(.bool false),(.string ⟨#[]⟩),(.slice none 0 0)] [(1, 1, (.tmp 32))],none⟩, ⟨some 34, .bldS 3 [(.bool false),(.string ⟨#[]⟩),(.slice none 0 0)] 1 [(0, (.tmp 33))],none⟩, ⟨some 35, .app 3 (.tmp 26) (.tmp 34) [],none⟩, ⟨some 36, .fa 2 (.tmp 5),none⟩, ⟨none, .st 1 (.tmp 36) (.tmp 35) [],none⟩] [1, 5, 6, 8, 18, 19, 20]) (.reg [⟨some 37, .fa 2 (.tmp 6),none⟩, ⟨some 38, .ld none (.tmp 37) [],none⟩, ⟨some 39, .mv (.tmp 8),none⟩, ⟨some 40, .bld [(.bool false),(.string ⟨#[]⟩),(.slice none 0 0)] [(1, 1, (.tmp 39))],none⟩, ⟨some 41, .bldS 3 [(.bool false),(.string ⟨#[]⟩),(.slice none 0 0)] 1 [(0, (.tmp 40))],none⟩, ⟨some 42, .app 3 (.tmp 38) (.tmp 41) [],none⟩, ⟨some 43, .fa 2 (.tmp 6),none⟩, ⟨none, .st 1 (.tmp 43) (.tmp 42) [],none⟩] [1, 5, 6, 18, 19, 20])))) (.reg [⟨some 44, .bin .add (.tmp 20) (.const (.int .i64 1)),none⟩, ⟨some 20, .mv (.tmp 44),none⟩] [1, 5, 6, 18, 19, 20]))))
noncomputable def c169 : C := (.seq (.reg [⟨some 1, .box (.tmp 0),none⟩, ⟨some 2, .mv (.const (.string ⟨#[]⟩)),none⟩, ⟨some 3, .mv (.const (.int .i64 0)),none⟩] [1]) (.seq (.seq (.reg [⟨some 10, .ld (some 21) (.tmp 1) [],none⟩, ⟨some 11, .cal 116 [(.tmp 10)] true [],none⟩, ⟨some 4, .mv (.tmp 11),none⟩] [1, 4]) (.seq (.reg [⟨some 12, .mv (.tmp 4),none⟩, ⟨some 13, .bin .neq (.tmp 12) (.const (.int .i64 0)),none⟩] [1, 4, 13]) (.cnd (.tmp 13) (.seq (.reg [⟨some 14, .mv (.tmp 4),none⟩, ⟨some 2, .mv (.const (.string ⟨#[]⟩)),none⟩, ⟨some 3, .mv (.tmp 14),none⟩] [2, 3]) .ret) .nop))) (.seq (.reg [⟨some 15, .bld [(.bool false),(.string ⟨#[]⟩),(.slice none 0 0)] [(0, 1, (.const (.bool true)))],none⟩, ⟨some 16, .bld [(.bool false),(.string ⟨#[]⟩),(.slice none 0 0)] [(0, 1, (.const (.bool true)))],none⟩, ⟨some 5, .new [(.bool false),(.string ⟨#[]⟩),(.slice none 0 0)],none⟩, ⟨some 6, .new [(.bool false),(.string ⟨#[]⟩),(.slice none 0 0)],none⟩, ⟨none, .st 3 (.tmp 5) (.tmp 15) [],none⟩, ⟨none, .st 3 (.tmp 6) (.tmp 16) [],none⟩] [1, 5, 6]) (.seq (.seq (.reg [⟨some 17, .fa 20 (.tmp 1),none⟩, ⟨some 18, .ld none (.tmp 17) [],none⟩, ⟨some 19, .len (.tmp 18),none⟩, ⟨some 20, .mv (.const (.int .i64 0)),none⟩] [1, 5, 6, 18, 19, 20]) (.blk 0 (.lop b169_0))) (.seq (.reg [⟨some 45, .fa 0 (.tmp 1),none⟩, ⟨some 46, .ld none (.tmp 45) [],none⟩, ⟨some 47, .cal 232 [(.tmp 46)] true [],none⟩, ⟨some 48, .fa 1 (.tmp 1),none⟩, ⟨some 49, .ld none (.tmp 48) [],none⟩, ⟨some 50, .cal 232 [(.tmp 49)] true [],none⟩, ⟨some 51, .fa 2 (.tmp 1),none⟩, ⟨some 52, .ld (some 4) (.tmp 51) [],none⟩, ⟨some 53, .cal 233 [(.tmp 52)] true [],none⟩, ⟨some 54, .fa 6 (.tmp 1),none⟩, ⟨some 55, .ld (some 4) (.tmp 54) [],none⟩, ⟨some 56, .cal 233 [(.tmp 55)] true [],none⟩, ⟨some 57, .fa 10 (.tmp 1),none⟩, ⟨some 58, .ld (some 4) (.tmp 57) [],none⟩, ⟨some 59, .cal 233 [(.tmp 58)] true [],none⟩, ⟨some 60, .fa 14 (.tmp 1),none⟩, ⟨some 61, .ld (some 4) (.tmp 60) [],none⟩, ⟨some 62, .cal 233 [(.tmp 61)] true [],none⟩, ⟨some 63, .fa 18 (.tmp 1),none⟩, ⟨some 64, .ld none (.tmp 63) [],none⟩, ⟨some 65, .cal 232 [(.tmp 64)] true [],none⟩, ⟨some 66, .ld (some 3) (.tmp 5) [],none⟩, ⟨some 67, .ld (some 3) (.tmp 6) [],none⟩, ⟨some 68, .bldS 3 [(.bool false),(.string ⟨#[]⟩),(.slice none 0 0)] 9 [(0, (.tmp 47)),(1, (.tmp 50)),(2, (.tmp 53)),(3, (.tmp 56)),(4, (.tmp 59)),(5, (.tmp 62)),(6, (.tmp 65)),(7, (.tmp 66)),(8, (.tmp 67))],none⟩, ⟨some 9, .mv (.tmp 68),none⟩] [9]) (.seq (.reg [⟨some 69, .mv (.tmp 9),none⟩, ⟨some 70, .bld [(.bool false),(.string ⟨#[]⟩),(.slice none 0 0)] [(0, 1, (.const (.bool true))),(2, 1, (.tmp 69))],none⟩, ⟨some 71, .cal 234 [(.tmp 70)] true [],none⟩, ⟨some 72, .ex (.tmp 71) 0,none⟩, ⟨some 73, .ex (.tmp 71) 1,none⟩, ⟨some 2, .mv (.tmp 72),none⟩, ⟨some 3, .mv (.tmp 73),none⟩] [2, 3]) .ret))))))
noncomputable def fd169 : FD := ⟨1, c169, [.tmp 2, .tmp 3]⟩
noncomputable def c173 : C := (.seq (.reg [⟨some 2, .box (.tmp 0),none⟩, ⟨some 3, .mv (.const (.bool false)),none⟩] [1, 2]) (.seq (.reg [⟨some 7, .fa 0 (.tmp 2),none⟩, ⟨some 8, .ld (some 21) (.tmp 7) [],none⟩, ⟨some 9, .cal 89 [(.tmp 8)] true [],none⟩, ⟨some 6, .mv (.tmp 9),none⟩, ⟨some 10, .ex (.tmp 6) 0,none⟩, ⟨some 11, .ex (.tmp 6) 1,none⟩, ⟨some 4, .mv (.tmp 10),none⟩, ⟨some 5, .mv (.tmp 11),none⟩] [1, 4]) (.seq (.reg [⟨some 12, .mv (.tmp 4),none⟩, ⟨some 13, .ld none (.tmp 1) [],none⟩, ⟨some 14, .bin .eql (.tmp 12) (.tmp 13),none⟩, ⟨some 3, .mv (.tmp 14),none⟩] [3]) .ret)))
noncomputable def fd173 : FD := ⟨2, c173, [.tmp 3]⟩
noncomputable def c177 : C := (.seq (.reg [⟨some 1, .box (.tmp 0),none⟩, ⟨some 2, .new [(.int .u64 0),(.int .u64 0),(.int .u64 0),(.int .u64 0)],none⟩, ⟨some 3, .mv (.const (.int .i64 0)),none⟩] [1, 2]) (.seq (.seq (.reg [⟨some 7, .ld (some 21) (.tmp 1) [],none⟩, ⟨some 8, .cal 116 [(.tmp 7)] true [],none⟩, ⟨some 4, .mv (.tmp 8),none⟩] [1, 2, 4]) (.seq (.reg [⟨some 9, .mv (.tmp 4),none⟩, ⟨some 10, .bin .neq (.tmp 9) (.const (.int .i64 0)),none⟩] [1, 2, 4, 10]) (.cnd (.tmp 10) (.seq (.reg [⟨some 11, .bld [(.int .u64 0),(.int .u64 0),(.int .u64 0),(.int .u64 0)] [],none⟩, ⟨some 12, .mv (.tmp 4),none⟩, ⟨none, .st 4 (.tmp 2) (.tmp 11) [],none⟩, ⟨some 3, .mv (.tmp 12),none⟩] [2, 3]) .ret) .nop))) (.seq (.reg [⟨some 14, .ld (some 21) (.tmp 1) [],none⟩, ⟨some 15, .cal 191 [(.tmp 14)] true [],none⟩, ⟨some 13, .mv (.tmp 15),none⟩, ⟨some 16, .ex (.tmp 13) 0,none⟩, ⟨some 17, .ex (.tmp 13) 1,none⟩, ⟨some 5, .new [(.int .u64 0),(.int .u64 0),(.int .u64 0),(.int .u64 0)],none⟩, ⟨none, .st 4 (.tmp 5) (.tmp 16) [],none⟩, ⟨some 6, .mv (.tmp 17),none⟩] [2, 5]) (.seq (.reg [⟨some 18, .ld (some 4) (.tmp 5) [],none⟩, ⟨none, .st 4 (.tmp 2) (.tmp 18) [],none⟩, ⟨some 3, .mv (.const (.int .i64 0)),none⟩] [2, 3]) .ret))))
noncomputable def fd177 : FD := ⟨1, c177, [.cell 2 (some 4),.tmp 3]⟩
noncomputable def c198 : C := (.seq (.reg [⟨some 2, .mv (.const (.int .i64 0)),none⟩, ⟨some 3, .mv (.const (.int .i64 0)),none⟩] [0]) (.seq (.seq (.reg [⟨some 4, .mv (.tmp 0),none⟩, ⟨some 5, .bin .lss (.tmp 4) (.const (.int .i64 0)),none⟩, ⟨some 6, .mv (.tmp 5),none⟩, ⟨some 7, .mv (.tmp 0),some (6, false)⟩, ⟨some 8, .bin .geq (.tmp 7) (.const (.int .i64 4)),some (6, false)⟩, ⟨some 9, .pick (.tmp 6) (.const (.bool true)) (.tmp 8),none⟩] [0, 9]) (.cnd (.tmp 9) (.seq (.reg [⟨some 2, .mv (.const (.int .i64 0)),none⟩, ⟨some 3, .mv (.const (.int .i64 1)),none⟩] [2, 3]) .ret) .nop)) (.seq (.reg [⟨some 10, .mv (.tmp 0),none⟩, ⟨some 11, .bin .shl (.const (.int .i64 128)) (.tmp 10),none⟩, ⟨some 2, .mv (.tmp 11),none⟩, ⟨some 3, .mv (.const (.int .i64 0)),none⟩] [2, 3]) .ret)))
noncomputable def fd198 : FD := ⟨1, c198, [.tmp 2, .tmp 3]⟩
noncomputable def c202 : C := (.seq (.reg [⟨some 3, .mv (.tmp 0),none⟩, ⟨some 4, .len (.tmp 3),none⟩, ⟨some 2, .mv (.tmp 4),none⟩] [0, 2]) (.reg [⟨some 5, .mv (.tmp 0),none⟩, ⟨some 6, .mv (.tmp 2),none⟩, ⟨some 7, .mv (.tmp 2),none⟩, ⟨some 8, .cvi .u64 (.tmp 7),none⟩, ⟨some 9, .cal 246 [(.tmp 8)] true [],none⟩, ⟨some 10, .cal 245 [(.tmp 5),(.const (.int .i64 0)),(.tmp 6),(.tmp 9)] false [],none⟩] []))
noncomputable def fd202 : FD := ⟨1, c202, []⟩
noncomputable def c234 : C := (.seq (.reg [⟨some 1, .box (.tmp 0),none⟩, ⟨some 2, .mv (.const (.string ⟨#[]⟩)),none⟩, ⟨some 3, .mv (.const (.int .i64 0)),none⟩] [1]) (.seq (.seq (.reg [⟨some 5, .ld (some 3) (.tmp 1) [],none⟩, ⟨some 6, .cal 265 [(.tmp 5)] true [],none⟩, ⟨some 4, .mv (.tmp 6),none⟩] [1, 4]) (.seq (.reg [⟨some 7, .mv (.tmp 4),none⟩, ⟨some 8, .bin .neq (.tmp 7) (.const (.int .i64 0)),none⟩] [1, 4, 8]) (.cnd (.tmp 8) (.seq (.reg [⟨some 9, .mv (.tmp 4),none⟩, ⟨some 2, .mv (.const (.string ⟨#[]⟩)),none⟩, ⟨some 3, .mv (.tmp 9),none⟩] [2, 3]) .ret) .nop))) (.seq (.reg [⟨some 10, .ld (some 3) (.tmp 1) [],none⟩, ⟨some 11, .cal 266 [(.const (.slice none 0 0)),(.tmp 10)] false [],none⟩, ⟨some 12, .cvs (.tmp 11),none⟩, ⟨some 2, .mv (.tmp 12),none⟩, ⟨some 3, .mv (.const (.int .i64 0)),none⟩] [2, 3]) .ret)))
noncomputable def fd234 : FD := ⟨1, c234, [.tmp 2, .tmp 3]⟩
noncomputable def b244_0 : C := (.seq (.seq (.reg [⟨some 13, .mv (.tmp 5),none⟩, ⟨some 14, .ld none (.tmp 1) [],none⟩, ⟨some 15, .len (.tmp 14),none⟩, ⟨some 16, .bin .lss (.tmp 13) (.tmp 15),none⟩, ⟨some 17, .mv (.tmp 16),none⟩, ⟨some 18, .ld none (.tmp 1) [],some (17, true)⟩, ⟨some 19, .mv (.tmp 5),some (17, true)⟩, ⟨some 20, .ia 21 (.tmp 18) (.tmp 19),some (17, true)⟩, ⟨some 21, .fa 0 (.tmp 20),some (17, true)⟩, ⟨some 22, .ld none (.tmp 21) [],some (17, true)⟩, ⟨some 23, .mv (.tmp 4),some (17, true)⟩, ⟨some 24, .bin .eql (.tmp 22) (.tmp 23),some (17, true)⟩, ⟨some 25, .pick (.tmp 17) (.tmp 24) (.const (.bool false)),none⟩] [0, 1, 3, 4, 5, 25]) (.cnd (.tmp 25) .nop (.exi 2))) (.blk 3 (.reg [⟨some 26, .mv (.tmp 5),none⟩, ⟨some 27, .bin .add (.tmp 26) (.const (.int .i64 1)),none⟩, ⟨some 5, .mv (.tmp 27),none⟩] [0, 1, 3, 4, 5])))
noncomputable def b244_1 : C := (.seq (.seq (.reg [⟨some 6, .ld none (.tmp 1) [],none⟩, ⟨some 7, .len (.tmp 6),none⟩, ⟨some 8, .bin .gtr (.tmp 7) (.const (.int .i64 0)),none⟩] [0, 1, 3, 8]) (.cnd (.tmp 8) .nop (.exi 0))) (.blk 1 (.seq (.reg [⟨some 9, .ld none (.tmp 1) [],none⟩, ⟨some 10, .ia 21 (.tmp 9) (.const (.int .i64 0)),none⟩, ⟨some 11, .fa 0 (.tmp 10),none⟩, ⟨some 12, .ld none (.tmp 11) [],none⟩, ⟨some 4, .mv (.tmp 12),none⟩, ⟨some 5, .mv (.const (.int .i64 0)),none⟩] [0, 1, 3, 4, 5]) (.seq (.blk 2 (.lop b244_0)) (.seq (.seq (.reg [⟨some 28, .mv (.tmp 4),none⟩, ⟨some 29, .mv (.tmp 3),none⟩, ⟨some 30, .bin .leq (.tmp 28) (.tmp 29),none⟩, ⟨some 31, .mv (.tmp 30),none⟩, ⟨some 32, .mv (.tmp 4),some (31, false)⟩, ⟨some 33, .bin .geq (.tmp 32) (.const (.int .i64 8)),some (31, false)⟩, ⟨some 34, .pick (.tmp 31) (.const (.bool true)) (.tmp 33),none⟩] [0, 1, 4, 5, 34]) (.cnd (.tmp 34) (.seq (.reg [⟨some 35, .mv (.tmp 0),none⟩, ⟨some 36, .ld none (.tmp 1) [],none⟩, ⟨some 37, .clv (.tmp 35) [(.const (.int .i64 (-1))),(.tmp 36)] false [],none⟩] []) .ret) .nop)) (.seq (.seq (.reg [⟨some 38, .mv (.tmp 0),none⟩, ⟨some 39, .mv (.tmp 4),none⟩, ⟨some 40, .ld none (.tmp 1) [],none⟩, ⟨some 41, .mv (.tmp 5),none⟩, ⟨some 42, .sli 21 (.tmp 40) none (some (.tmp 41)) none,none⟩, ⟨some 43, .clv (.tmp 38) [(.tmp 39),(.tmp 42)] false [],none⟩, ⟨some 44, .not (.tmp 43),none⟩] [0, 1, 4, 5, 44]) (.cnd (.tmp 44) .ret .nop)) (.reg [⟨some 45, .mv (.tmp 4),none⟩, ⟨some 46, .ld none (.tmp 1) [],none⟩, ⟨some 47, .mv (.tmp 5),none⟩, ⟨some 48, .sli 21 (.tmp 46) (some (.tmp 47)) none none,none⟩, ⟨some 3, .mv (.tmp 45),none⟩, ⟨none, .st 1 (.tmp 1) (.tmp 48) [],none⟩] [0, 1, 3])))))))
noncomputable def c244 : C := (.seq (.reg [⟨some 3, .mv (.const (.int .i64 (-1))),none⟩] [0, 1, 3]) (.blk 0 (.lop b244_1)))
noncomputable def fd244 : FD := ⟨2, c244, []⟩
noncomputable def c260 : C := (.seq (.reg [⟨some 1, .box (.tmp 0),none⟩, ⟨some 2, .mv (.const .nilFunc),none⟩] [1]) (.seq (.reg [⟨some 3, .mkf 285 [(.tmp 1)],none⟩, ⟨some 2, .mv (.tmp 3),none⟩] [2]) .ret))
noncomputable def fd260 : FD := ⟨1, c260, [.tmp 2]⟩
noncomputable def b264_0 : C := (.seq (.reg [⟨some 13, .bin .lss (.tmp 12) (.tmp 11),none⟩] [1, 3, 11, 12, 13]) (.seq (.cnd (.tmp 13) .nop (.exi 0)) (.seq (.blk 1 (.seq (.reg [⟨some 14, .mv (.tmp 12),none⟩, ⟨some 4, .mv (.tmp 14),none⟩] [1, 3, 4, 11, 12]) (.reg [⟨some 15, .mv (.tmp 3),none⟩, ⟨some 16, .mv (.tmp 3),none⟩, ⟨some 17, .len (.tmp 16),none⟩, ⟨some 18, .bin .sub (.tmp 17) (.const (.int .i64 1)),none⟩, ⟨some 19, .mv (.tmp 4),none⟩, ⟨some 20, .bin .sub (.tmp 18) (.tmp 19),none⟩, ⟨some 21, .mv (.tmp 4),none⟩, ⟨some 22, .bin .quo (.tmp 21) (.const (.int .i64 8)),none⟩, ⟨some 23, .iaa 4 1 (.tmp 1) (.tmp 22),none⟩, ⟨some 24, .ld none (.tmp 23) [],none⟩, ⟨some 25, .mv (.tmp 4),none⟩, ⟨some 26, .bin .rem (.tmp 25) (.const (.int .i64 8)),none⟩, ⟨some 27, .bin .mul (.tmp 26) (.const (.int .i64 8)),none⟩, ⟨some 28, .bin .shr (.tmp 24) (.tmp 27),none⟩, ⟨some 29, .cvi .u8 (.tmp 28),none⟩, ⟨some 30, .ia 1 (.tmp 15) (.tmp 20),none⟩, ⟨none, .st 1 (.tmp 30) (.tmp 29) [],none⟩] [1, 3, 11, 12]))) (.reg [⟨some 31, .bin .add (.tmp 12) (.const (.int .i64 1)),none⟩, ⟨some 12, .mv (.tmp 31),none⟩] [1, 3, 11, 12]))))
noncomputable def c264 : C := (.seq (.reg [⟨some 1, .box (.tmp 0),none⟩, ⟨some 2, .mv (.const (.string ⟨#[]⟩)),none⟩] [1]) (.seq (.reg [⟨some 5, .ld (some 4) (.tmp 1) [],none⟩, ⟨some 6, .cal 287 [(.tmp 5)] true [],none⟩, ⟨some 7, .bin .add (.tmp 6) (.const (.int .i64 7)),none⟩, ⟨some 8, .bin .quo (.tmp 7) (.const (.int .i64 8)),none⟩, ⟨some 9, .mks 1 [(.int .u8 0)] (.tmp 8) (.tmp 8),none⟩, ⟨some 3, .mv (.tmp 9),none⟩] [1, 3]) (.seq (.seq (.reg [⟨some 10, .mv (.tmp 3),none⟩, ⟨some 11, .len (.tmp 10),none⟩, ⟨some 12, .mv (.const (.int .i64 0)),none⟩] [1, 3, 11, 12]) (.blk 0 (.lop b264_0))) (.seq (.reg [⟨some 32, .mv (.tmp 3),none⟩, ⟨some 33, .cvs (.tmp 32),none⟩, ⟨some 2, .mv (.tmp 33),none⟩] [2]) .ret))))
noncomputable def fd264 : FD := ⟨1, c264, [.tmp 2]⟩
noncomputable def c272 : C := (.seq (.reg [⟨some 6, .mv (.const (.int .i64 0)),none⟩, ⟨some 7, .mv (.const (.int .i64 0)),none⟩] [0, 1, 2]) (.seq (.reg [⟨some 13, .mv (.tmp 2),none⟩, ⟨some 14, .mv (.tmp 1),none⟩, ⟨some 15, .bin .sub (.tmp 13) (.tmp 14),none⟩, ⟨some 8, .mv (.tmp 15),none⟩] [0, 1, 8]) (.seq (.reg [⟨some 9, .new [(.int .i64 0)],none⟩] [0, 1, 8, 9]) (.seq (.reg [⟨some 16, .mv (.tmp 1),none⟩, ⟨some 17, .mv (.tmp 8),none⟩, ⟨some 18, .bin .quo (.tmp 17) (.const (.int .i64 4)),none⟩, ⟨some 19, .bin .mul (.tmp 18) (.const (.int .i64 1)),none⟩, ⟨some 20, .bin .add (.tmp 16) (.tmp 19),none⟩, ⟨some 10, .mv (.tmp 20),none⟩] [0, 1, 8, 9, 10]) (.seq (.reg [⟨some 21, .mv (.tmp 1),none⟩, ⟨some 22, .mv (.tmp 8),none⟩, ⟨some 23, .bin .quo (.tmp 22) (.const (.int .i64 4)),none⟩, ⟨some 24, .bin .mul (.tmp 23) (.const (.int .i64 2)),none⟩, ⟨some 25, .bin .add (.tmp 21) (.tmp 24),none⟩, ⟨some 11, .mv (.tmp 25),none⟩] [0, 1, 8, 9, 10, 11]) (.seq (.reg [⟨some 26, .mv (.tmp 1),none⟩, ⟨some 27, .mv (.tmp 8),none⟩, ⟨some 28, .bin .quo (.tmp 27) (.const (.int .i64 4)),none⟩, ⟨some 29, .bin .mul (.tmp 28) (.const (.int .i64 3)),none⟩, ⟨some 30, .bin .add (.tmp 26) (.tmp 29),none⟩, ⟨some 12, .mv (.tmp 30),none⟩] [0, 8, 9, 10, 11, 12]) (.seq (.seq (.reg [⟨some 31, .mv (.tmp 8),none⟩, ⟨some 32, .bin .geq (.tmp 31) (.const (.int .i64 8)),none⟩] [0, 8, 9, 10, 11, 12, 32]) (.cnd (.tmp 32) (.seq (.seq (.reg [⟨some 33, .mv (.tmp 8),none⟩, ⟨some 34, .bin .geq (.tmp 33) (.const (.int .i64 50)),none⟩] [0, 9, 10, 11, 12, 34]) (.cnd (.tmp 34) (.seq (.reg [⟨some 35, .mv (.tmp 0),none⟩, ⟨some 36, .mv (.tmp 10),none⟩, ⟨some 37, .cal 294 [(.tmp 35),(.tmp 36),(.tmp 9)] false [],none⟩, ⟨some 10, .mv (.tmp 37),none⟩] [0, 9, 10, 11, 12]) (.seq (.reg [⟨some 38, .mv (.tmp 0),none⟩, ⟨some 39, .mv (.tmp 11),none⟩, ⟨some 40, .cal 294 [(.tmp 38),(.tmp 39),(.tmp 9)] false [],none⟩, ⟨some 11, .mv (.tmp 40),none⟩] [0, 9, 10, 11, 12]) (.reg [⟨some 41, .mv (.tmp 0),none⟩, ⟨some 42, .mv (.tmp 12),none⟩, ⟨some 43, .cal 294 [(.tmp 41),(.tmp 42),(.tmp 9)] false [],none⟩, ⟨some 12, .mv (.tmp 43),none⟩] [0, 9, 10, 11, 12]))) .nop)) (.reg [⟨some 44, .mv (.tmp 0),none⟩, ⟨some 45, .mv (.tmp 10),none⟩, ⟨some 46, .mv (.tmp 11),none⟩, ⟨some 47, .mv (.tmp 12),none⟩, ⟨some 48, .cal 295 [(.tmp 44),(.tmp 45),(.tmp 46),(.tmp 47),(.tmp 9)] false [],none⟩, ⟨some 11, .mv (.tmp 48),none⟩] [9, 11])) .nop)) (.seq (.reg [⟨some 49, .ld none (.tmp 9) [],none⟩] [11, 49]) (.blk 0 (.seq (.reg [⟨some 52, .bin .eql (.tmp 49) (.const (.int .i64 0)),none⟩, ⟨some 51, .mv (.tmp 52),none⟩] [11, 49, 51]) (.cnd (.tmp 51) (.seq (.reg [⟨some 53, .mv (.tmp 11),none⟩, ⟨some 6, .mv (.tmp 53),none⟩, ⟨some 7, .mv (.const (.int .i64 1)),none⟩] [6, 7]) .ret) (.seq (.reg [⟨some 55, .bin .eql (.tmp 49) (.const (.int .i64 12)),none⟩, ⟨some 54, .mv (.tmp 55),none⟩] [11, 54]) (.cnd (.tmp 54) (.seq (.reg [⟨some 56, .mv (.tmp 11),none⟩, ⟨some 6, .mv (.tmp 56),none⟩, ⟨some 7, .mv (.const (.int .i64 2)),none⟩] [6, 7]) .ret) (.seq (.reg [⟨some 50, .mv (.tmp 11),none⟩, ⟨some 6, .mv (.tmp 50),none⟩, ⟨some 7, .mv (.const (.int .i64 0)),none⟩] [6, 7]) .ret))))))))))))))
noncomputable def fd272 : FD := ⟨3, c272, [.tmp 6, .tmp 7]⟩
noncomputable def b276_0 : C := (.seq (.seq (.reg [⟨some 29, .mv (.tmp 9),none⟩, ⟨some 30, .mv (.tmp 10),none⟩, ⟨some 31, .bin .leq (.tmp 29) (.tmp 30),none⟩, ⟨some 32, .mv (.tmp 31),none⟩, ⟨some 33, .mv (.tmp 0),some (32, true)⟩, ⟨some 34, .mv (.tmp 1),some (32, true)⟩, ⟨some 35, .ia 1 (.tmp 33) (.tmp 34),some (32, true)⟩, ⟨some 36, .ld none (.tmp 35) [],some (32, true)⟩, ⟨some 37, .mv (.tmp 0),some (32, true)⟩, ⟨some 38, .mv (.tmp 9),some (32, true)⟩, ⟨some 39, .ia 1 (.tmp 37) (.tmp 38),some (32, true)⟩, ⟨some 40, .ld none (.tmp 39) [],some (32, true)⟩, ⟨some 41, .cal 275 [(.tmp 36),(.tmp 40)] true [],some (32, true)⟩, ⟨some 42, .not (.tmp 41),some (32, true)⟩, ⟨some 43, .pick (.tmp 32) (.tmp 42) (.const (.bool false)),none⟩] [0, 1, 9, 10, 43]) (.cnd (.tmp 43) .nop (.exi 2))) (.blk 3 (.reg [⟨some 44, .mv (.tmp 9),none⟩, ⟨some 45, .bin .add (.tmp 44) (.const (.int .i64 1)),none⟩, ⟨some 9, .mv (.tmp 45),none⟩] [0, 1, 9, 10])))
noncomputable def b276_1 : C := (.seq (.seq (.reg [⟨some 46, .mv (.tmp 9),none⟩, ⟨some 47, .mv (.tmp 10),none⟩, ⟨some 48, .bin .leq (.tmp 46) (.tmp 47),none⟩, ⟨some 49, .mv (.tmp 48),none⟩, ⟨some 50, .mv (.tmp 0),some (49, true)⟩, ⟨some 51, .mv (.tmp 1),some (49, true)⟩, ⟨some 52, .ia 1 (.tmp 50) (.tmp 51),some (49, true)⟩, ⟨some 53, .ld none (.tmp 52) [],some (49, true)⟩, ⟨some 54, .mv (.tmp 0),some (49, true)⟩, ⟨some 55, .mv (.tmp 10),some (49, true)⟩, ⟨some 56, .ia 1 (.tmp 54) (.tmp 55),some (49, true)⟩, ⟨some 57, .ld none (.tmp 56) [],some (49, true)⟩, ⟨some 58, .cal 275 [(.tmp 53),(.tmp 57)] true [],some (49, true)⟩, ⟨some 59, .pick (.tmp 49) (.tmp 58) (.const (.bool false)),none⟩] [0, 1, 9, 10, 59]) (.cnd (.tmp 59) .nop (.exi 4))) (.blk 5 (.reg [⟨some 60, .mv (.tmp 10),none⟩, ⟨some 61, .bin .sub (.tmp 60) (.const (.int .i64 1)),none⟩, ⟨some 10, .mv (.tmp 61),none⟩] [0, 1, 9, 10])))
noncomputable def b276_2 : C := (.blk 1 (.seq (.blk 2 (.lop b276_0)) (.seq (.blk 4 (.lop b276_1)) (.seq (.seq (.reg [⟨some 62, .mv (.tmp 9),none⟩, ⟨some 63, .mv (.tmp 10),none⟩, ⟨some 64, .bin .gtr (.tmp 62) (.tmp 63),none⟩] [0, 1, 9, 10, 64]) (.cnd (.tmp 64) (.exi 0) .nop)) (.seq (.reg [⟨some 65, .mv (.tmp 0),none⟩, ⟨some 66, .mv (.tmp 9),none⟩, ⟨some 67, .mv (.tmp 0),none⟩, ⟨some 68, .mv (.tmp 10),none⟩, ⟨some 69, .mv (.tmp 0),none⟩, ⟨some 70, .mv (.tmp 10),none⟩, ⟨some 71, .ia 1 (.tmp 69) (.tmp 70),none⟩, ⟨some 72, .ld none (.tmp 71) [],none⟩, ⟨some 73, .mv (.tmp 0),none⟩, ⟨some 74, .mv (.tmp 9),none⟩, ⟨some 75, .ia 1 (.tmp 73) (.tmp 74),none⟩, ⟨some 76, .ld none (.tmp 75) [],none⟩, ⟨some 77, .ia 1 (.tmp 65) (.tmp 66),none⟩, ⟨none, .st 1 (.tmp 77) (.tmp 72) [],none⟩, ⟨some 78, .ia 1 (.tmp 67) (.tmp 68),none⟩, ⟨none, .st 1 (.tmp 78) (.tmp 76) [],none⟩] [0, 1, 9, 10]) (.seq (.reg [⟨some 79, .mv (.tmp 9),none⟩, ⟨some 80, .bin .add (.tmp 79) (.const (.int .i64 1)),none⟩, ⟨some 9, .mv (.tmp 80),none⟩] [0, 1, 9, 10]) (.reg [⟨some 81, .mv (.tmp 10),none⟩, ⟨some 82, .bin .sub (.tmp 81) (.const (.int .i64 1)),none⟩, ⟨some 10, .mv (.tmp 82),none⟩] [0, 1, 9, 10])))))))
noncomputable def c276 : C := (.seq (.reg [⟨some 8, .mv (.const (.int .i64 0)),none⟩] [0, 1, 2, 3]) (.seq (.reg [⟨some 11, .mv (.tmp 0),none⟩, ⟨some 12, .mv (.tmp 1),none⟩, ⟨some 13, .mv (.tmp 0),none⟩, ⟨some 14, .mv (.tmp 3),none⟩, ⟨some 15, .mv (.tmp 0),none⟩, ⟨some 16, .mv (.tmp 3),none⟩, ⟨some 17, .ia 1 (.tmp 15) (.tmp 16),none⟩, ⟨some 18, .ld none (.tmp 17) [],none⟩, ⟨some 19, .mv (.tmp 0),none⟩, ⟨some 20, .mv (.tmp 1),none⟩, ⟨some 21, .ia 1 (.tmp 19) (.tmp 20),none⟩, ⟨some 22, .ld none (.tmp 21) [],none⟩, ⟨some 23, .ia 1 (.tmp 11) (.tmp 12),none⟩, ⟨none, .st 1 (.tmp 23) (.tmp 18) [],none⟩, ⟨some 24, .ia 1 (.tmp 13) (.tmp 14),none⟩, ⟨none, .st 1 (.tmp 24) (.tmp 22) [],none⟩] [0, 1, 2]) (.seq (.reg [⟨some 25, .mv (.tmp 1),none⟩, ⟨some 26, .bin .add (.tmp 25) (.const (.int .i64 1)),none⟩, ⟨some 27, .mv (.tmp 2),none⟩, ⟨some 28, .bin .sub (.tmp 27) (.const (.int .i64 1)),none⟩, ⟨some 9, .mv (.tmp 26),none⟩, ⟨some 10, .mv (.tmp 28),none⟩] [0, 1, 9, 10]) (.seq (.blk 0 (.lop b276_2)) (.seq (.reg [⟨some 83, .mv (.tmp 9),none⟩, ⟨some 8, .mv (.tmp 83),none⟩] [8]) .ret)))))
noncomputable def fd276 : FD := ⟨4, c276, [.tmp 8]⟩
noncomputable def b288_0 : C := (.seq (.reg [⟨some 64, .bin .lss (.tmp 63) (.tmp 62),none⟩] [1, 7, 61, 62, 63, 64]) (.seq (.cnd (.tmp 64) .nop (.exi 1)) (.seq (.blk 2 (.seq (.reg [⟨some 65, .ia 3 (.tmp 61) (.tmp 63),none⟩, ⟨some 66, .ld (some 3) (.tmp 65) [],none⟩, ⟨some 9, .new [(.bool false),(.string ⟨#[]⟩),(.slice none 0 0)],none⟩, ⟨none, .st 3 (.tmp 9) (.tmp 66) [],none⟩] [1, 7, 9, 61, 62, 63]) (.seq (.reg [⟨some 68, .ld (some 3) (.tmp 9) [],none⟩, ⟨some 69, .mv (.tmp 1),none⟩, ⟨some 70, .bin .add (.tmp 69) (.const (.int .i64 1)),none⟩, ⟨some 71, .cal 288 [(.tmp 68),(.tmp 70)] true [],none⟩, ⟨some 67, .mv (.tmp 71),none⟩, ⟨some 72, .ex (.tmp 67) 0,none⟩, ⟨some 73, .ex (.tmp 67) 1,none⟩, ⟨some 10, .mv (.tmp 72),none⟩, ⟨some 11, .mv (.tmp 73),none⟩] [1, 7, 10, 11, 61, 62, 63]) (.seq (.reg [⟨some 74, .mv (.tmp 7),none⟩, ⟨some 75, .mv (.tmp 10),none⟩, ⟨some 76, .bin .add (.tmp 74) (.tmp 75),none⟩, ⟨some 7, .mv (.tmp 76),none⟩] [1, 7, 11, 61, 62, 63]) (.seq (.reg [⟨some 77, .mv (.tmp 11),none⟩, ⟨some 78, .not (.tmp 77),none⟩, ⟨some 79, .mv (.tmp 78),none⟩, ⟨some 80, .mv (.tmp 7),some (79, false)⟩, ⟨some 81, .bin .gtr (.tmp 80) (.const (.int .i64 65536)),some (79, false)⟩, ⟨some 82, .pick (.tmp 79) (.const (.bool true)) (.tmp 81),none⟩] [1, 7, 61, 62, 63, 82]) (.cnd (.tmp 82) (.seq (.reg [⟨some 4, .mv (.const (.int .i64 0)),none⟩, ⟨some 5, .mv (.const (.bool false)),none⟩] [4, 5]) .ret) .nop)))))) (.reg [⟨some 83, .bin .add (.tmp 63) (.const (.int .i64 1)),none⟩, ⟨some 63, .mv (.tmp 83),none⟩] [1, 7, 61, 62, 63]))))
noncomputable def c288 : C := (.seq (.reg [⟨some 2, .box (.tmp 0),none⟩, ⟨some 4, .mv (.const (.int .i64 0)),none⟩, ⟨some 5, .mv (.const (.bool false)),none⟩] [1, 2]) (.seq (.blk 0 (.seq (.reg [⟨some 13, .fa 0 (.tmp 2),none⟩, ⟨some 14, .ld none (.tmp 13) [],none⟩, ⟨some 15, .not (.tmp 14),none⟩, ⟨some 16, .mv (.tmp 15),none⟩, ⟨some 17, .fa 2 (.tmp 2),some (16, true)⟩, ⟨some 18, .ld none (.tmp 17) [],some (16, true)⟩, ⟨some 19, .len (.tmp 18),some (16, true)⟩, ⟨some 20, .bin .gtr (.tmp 19) (.const (.int .i64 0)),some (16, true)⟩, ⟨some 21, .mv (.tmp 20),some (16, true)⟩, ⟨some 22, .fa 1 (.tmp 2),some (21, false)⟩, ⟨some 23, .ld none (.tmp 22) [],some (21, false)⟩, ⟨some 24, .lens (.tmp 23),some (21, false)⟩, ⟨some 25, .bin .gtr (.tmp 24) (.const (.int .i64 65536)),some (21, false)⟩, ⟨some 26, .pick (.tmp 21) (.const (.bool true)) (.tmp 25),some (16, true)⟩, ⟨some 27, .pick (.tmp 16) (.tmp 26) (.const (.bool false)),none⟩, ⟨some 12, .mv (.tmp 27),none⟩] [1, 2, 12]) (.cnd (.tmp 12) (.seq (.reg [⟨some 4, .mv (.const (.int .i64 0)),none⟩, ⟨some 5, .mv (.const (.bool false)),none⟩] [4, 5]) .ret) (.seq (.reg [⟨some 29, .fa 0 (.tmp 2),none⟩, ⟨some 30, .ld none (.tmp 29) [],none⟩, ⟨some 31, .not (.tmp 30),none⟩, ⟨some 32, .mv (.tmp 31),none⟩, ⟨some 33, .fa 1 (.tmp 2),some (32, true)⟩, ⟨some 34, .ld none (.tmp 33) [],some (32, true)⟩, ⟨some 35, .cal 290 [(.tmp 34)] true [],some (32, true)⟩, ⟨some 36, .pick (.tmp 32) (.tmp 35) (.const (.bool false)),none⟩, ⟨some 28, .mv (.tmp 36),none⟩] [1, 2, 28]) (.cnd (.tmp 28) (.seq (.reg [⟨some 4, .mv (.const (.int .i64 1)),none⟩, ⟨some 5, .mv (.const (.bool true)),none⟩] [4, 5]) .ret) (.seq (.reg [⟨some 38, .fa 0 (.tmp 2),none⟩, ⟨some 39, .ld none (.tmp 38) [],none⟩, ⟨some 40, .not (.tmp 39),none⟩, ⟨some 37, .mv (.tmp 40),none⟩] [1, 2, 37]) (.cnd (.tmp 37) (.seq (.reg [⟨some 41, .fa 1 (.tmp 2),none⟩, ⟨some 42, .ld none (.tmp 41) [],none⟩, ⟨some 43, .lens (.tmp 42),none⟩, ⟨some 44, .fa 1 (.tmp 2),none⟩, ⟨some 45, .ld none (.tmp 44) [],none⟩, ⟨some 46, .lens (.tmp 45),none⟩, ⟨some 47, .cal 302 [(.tmp 46)] true [],none⟩, ⟨some 48, .bin .add (.tmp 43) (.tmp 47),none⟩, ⟨some 6, .mv (.tmp 48),none⟩] [6]) (.seq (.reg [⟨some 49, .mv (.tmp 6),none⟩, ⟨some 50, .mv (.tmp 6),none⟩, ⟨some 51, .bin .leq (.tmp 50) (.const (.int .i64 65536)),none⟩, ⟨some 4, .mv (.tmp 49),none⟩, ⟨some 5, .mv (.tmp 51),none⟩] [4, 5]) .ret)) (.seq (.reg [⟨some 53, .fa 1 (.tmp 2),none⟩, ⟨some 54, .ld none (.tmp 53) [],none⟩, ⟨some 55, .bin .neq (.tmp 54) (.const (.string ⟨#[]⟩)),none⟩, ⟨some 56, .mv (.tmp 55),none⟩, ⟨some 57, .mv (.tmp 1),some (56, false)⟩, ⟨some 58, .bin .geq (.tmp 57) (.const (.int .i64 16)),some (56, false)⟩, ⟨some 59, .pick (.tmp 56) (.const (.bool true)) (.tmp 58),none⟩, ⟨some 52, .mv (.tmp 59),none⟩] [1, 2, 52]) (.cnd (.tmp 52) (.seq (.reg [⟨some 4, .mv (.const (.int .i64 0)),none⟩, ⟨some 5, .mv (.const (.bool false)),none⟩] [4, 5]) .ret) .nop))))))))) (.seq (.reg [⟨some 7, .mv (.const (.int .i64 0)),none⟩] [1, 2, 7]) (.seq (.seq (.reg [⟨some 60, .fa 2 (.tmp 2),none⟩, ⟨some 61, .ld none (.tmp 60) [],none⟩, ⟨some 62, .len (.tmp 61),none⟩, ⟨some 63, .mv (.const (.int .i64 0)),none⟩] [1, 7, 61, 62, 63]) (.blk 1 (.lop b288_0))) (.seq (.reg [⟨some 84, .mv (.tmp 7),none⟩, ⟨some 85, .mv (.tmp 7),none⟩, ⟨some 86, .cal 302 [(.tmp 85)] true [],none⟩, ⟨some 87, .bin .add (.tmp 84) (.tmp 86),none⟩, ⟨some 7, .mv (.tmp 87),none⟩] [7]) (.seq (.reg [⟨some 88, .mv (.tmp 7),none⟩, ⟨some 89, .mv (.tmp 7),none⟩, ⟨some 90, .bin .leq (.tmp 89) (.const (.int .i64 65536)),none⟩, ⟨some 4, .mv (.tmp 88),none⟩, ⟨some 5, .mv (.tmp 90),none⟩] [4, 5]) .ret))))))
noncomputable def fd288 : FD := ⟨2, c288, [.tmp 4, .tmp 5]⟩
noncomputable def c292 : C := (.seq (.reg [⟨some 2, .mv (.const (.int .u64 0)),none⟩] [0]) (.seq (.reg [⟨some 3, .mv (.tmp 0),none⟩, ⟨some 4, .cvi .u64 (.tmp 3),none⟩, ⟨some 5, .cal 246 [(.tmp 4)] true [],none⟩, ⟨some 6, .bin .shl (.const (.int .u64 1)) (.tmp 5),none⟩, ⟨some 2, .mv (.tmp 6),none⟩] [2]) .ret))
noncomputable def fd292 : FD := ⟨1, c292, [.tmp 2]⟩
noncomputable def c296 : C := (.seq (.reg [⟨some 2, .mv (.const (.bool false)),none⟩] [0]) (.seq (.reg [⟨some 3, .mv (.tmp 0),none⟩, ⟨some 4, .mv (.tmp 0),none⟩, ⟨some 5, .bin .neq (.tmp 3) (.tmp 4),none⟩, ⟨some 2, .mv (.tmp 5),none⟩] [2]) .ret))
noncomputable def fd296 : FD := ⟨1, c296, [.tmp 2]⟩
noncomputable def c304 : C := (.seq (.reg [⟨some 8, .mv (.const (.int .i64 0)),none⟩, ⟨some 9, .mv (.const (.int .i64 0)),none⟩] [0, 1, 2, 3]) (.seq (.seq (.reg [⟨some 10, .mv (.tmp 0),none⟩, ⟨some 11, .mv (.tmp 2),none⟩, ⟨some 12, .ia 1 (.tmp 10) (.tmp 11),none⟩, ⟨some 13, .ld none (.tmp 12) [],none⟩, ⟨some 14, .mv (.tmp 0),none⟩, ⟨some 15, .mv (.tmp 1),none⟩, ⟨some 16, .ia 1 (.tmp 14) (.tmp 15),none⟩, ⟨some 17, .ld none (.tmp 16) [],none⟩, ⟨some 18, .cal 275 [(.tmp 13),(.tmp 17)] true [],none⟩] [1, 2, 3, 18]) (.cnd (.tmp 18) (.seq (.reg [⟨some 19, .mv (.tmp 3),none⟩, ⟨some 20, .nck (.tmp 19),none⟩, ⟨some 21, .ld none (.tmp 20) [],none⟩, ⟨some 22, .bin .add (.tmp 21) (.const (.int .i64 1)),none⟩, ⟨some 23, .nck (.tmp 19),none⟩, ⟨none, .st 1 (.tmp 23) (.tmp 22) [],none⟩] [1, 2]) (.seq (.reg [⟨some 24, .mv (.tmp 2),none⟩, ⟨some 25, .mv (.tmp 1),none⟩, ⟨some 8, .mv (.tmp 24),none⟩, ⟨some 9, .mv (.tmp 25),none⟩] [8, 9]) .ret)) .nop)) (.seq (.reg [⟨some 26, .mv (.tmp 1),none⟩, ⟨some 27, .mv (.tmp 2),none⟩, ⟨some 8, .mv (.tmp 26),none⟩, ⟨some 9, .mv (.tmp 27),none⟩] [8, 9]) .ret)))
noncomputable def fd304 : FD := ⟨4, c304, [.tmp 8, .tmp 9]⟩
end Go.Proofs.YtakdnpafdadblaaGreat.EV
namespace Go.Proofs.YtakdnpafdadblaaGreat.EV
open Go
noncomputable def c29 : C := (.seq (.reg [⟨some 2, .mv (.const (.int .i64 0)),none⟩] [0]) (.seq (.reg [⟨some 3, .mv (.tmp 0),none⟩, ⟨some 2, .mv (.tmp 3),none⟩] [2]) .ret))
noncomputable def fd29 : FD := ⟨1, c29, [.tmp 2]⟩
noncomputable def c33 : C := (.seq (.reg [⟨some 1, .box (.tmp 0),none⟩, ⟨some 2, .new [(.int .i64 0),(.int .i64 0),(.int .u64 0),(.int .u64 0),(.int .u64 0),(.int .u64 0),(.int .i64 0),(.slice none 0 0),(.slice none 0 0),(.slice none 0 0)],none⟩] [1, 2]) (.seq (.reg [⟨some 4, .ld (some 10) (.tmp 1) [],none⟩, ⟨some 3, .new [(.int .i64 0),(.int .i64 0),(.int .u64 0),(.int .u64 0),(.int .u64 0),(.int .u64 0),(.int .i64 0),(.slice none 0 0),(.slice none 0 0),(.slice none 0 0)],none⟩, ⟨none, .st 10 (.tmp 3) (.tmp 4) [],none⟩] [1, 2, 3]) (.seq (.reg [⟨some 5, .fa 7 (.tmp 1),none⟩, ⟨some 6, .ld none (.tmp 5) [],none⟩, ⟨some 7, .cal 60 [(.tmp 6)] true [],none⟩, ⟨some 8, .fa 7 (.tmp 3),none⟩, ⟨none, .st 1 (.tmp 8) (.tmp 7) [],none⟩] [1, 2, 3]) (.seq (.reg [⟨some 9, .fa 8 (.tmp 1),none⟩, ⟨some 10, .ld none (.tmp 9) [],none⟩, ⟨some 11, .cal 95 [(.tmp 10)] true [],none⟩, ⟨some 12, .fa 8 (.tmp 3),none⟩, ⟨none, .st 1 (.tmp 12) (.tmp 11) [],none⟩] [1, 2, 3]) (.seq (.reg [⟨some 13, .fa 9 (.tmp 1),none⟩, ⟨some 14, .ld none (.tmp 13) [],none⟩, ⟨some 15, .cal 96 [(.tmp 14)] true [],none⟩, ⟨some 16, .fa 9 (.tmp 3),none⟩, ⟨none, .st 1 (.tmp 16) (.tmp 15) [],none⟩] [2, 3]) (.seq (.reg [⟨some 17, .ld (some 10) (.tmp 3) [],none⟩, ⟨none, .st 10 (.tmp 2) (.tmp 17) [],none⟩] [2]) .ret))))))
noncomputable def fd33 : FD := ⟨1, c33, [.cell 2 (some 10)]⟩
noncomputable def c89 : C := (.seq (.reg [⟨some 1, .box (.tmp 0),none⟩, ⟨some 2, .mv (.const (.int .u64 0)),none⟩, ⟨some 3, .mv (.const (.int .i64 0)),none⟩] [1]) (.seq (.reg [⟨some 7, .ld (some 21) (.tmp 1) [],none⟩, ⟨some 8, .cal 169 [(.tmp 7)] true [],none⟩, ⟨some 6, .mv (.tmp 8),none⟩, ⟨some 9, .ex (.tmp 6) 0,none⟩, ⟨some 10, .ex (.tmp 6) 1,none⟩, ⟨some 4, .mv (.tmp 9),none⟩, ⟨some 5, .mv (.tmp 10),none⟩] [4, 5]) (.seq (.seq (.reg [⟨some 11, .mv (.tmp 5),none⟩, ⟨some 12, .bin .neq (.tmp 11) (.const (.int .i64 0)),none⟩] [4, 5, 12]) (.cnd (.tmp 12) (.seq (.reg [⟨some 13, .mv (.tmp 5),none⟩, ⟨some 2, .mv (.const (.int .u64 0)),none⟩, ⟨some 3, .mv (.tmp 13),none⟩] [2, 3]) .ret) .nop)) (.seq (.reg [⟨some 14, .mv (.tmp 4),none⟩, ⟨some 15, .cal 170 [(.tmp 14)] true [],none⟩, ⟨some 2, .mv (.tmp 15),none⟩, ⟨some 3, .mv (.const (.int .i64 0)),none⟩] [2, 3]) .ret))))
noncomputable def fd89 : FD := ⟨1, c89, [.tmp 2, .tmp 3]⟩
noncomputable def b93_0 : C := (.seq (.reg [⟨some 13, .bin .lss (.tmp 12) (.tmp 11),none⟩] [3, 5, 10, 11, 12, 13]) (.seq (.cnd (.tmp 13) .nop (.exi 0)) (.seq (.blk 1 (.seq (.reg [⟨some 14, .ia 21 (.tmp 10) (.tmp 12),none⟩, ⟨some 15, .ld (some 21) (.tmp 14) [],none⟩, ⟨some 7, .new [(.int .i64 0),(.int .i64 0),(.int .u64 0),(.int .u64 0),(.int .u64 0),(.int .u64 0),(.int .u64 0),(.int .u64 0),(.int .u64 0),(.int .u64 0),(.int .u64 0),(.int .u64 0),(.int .u64 0),(.int .u64 0),(.int .u64 0),(.int .u64 0),(.int .u64 0),(.int .u64 0),(.int .i64 0),(.slice none 0 0),(.slice none 0 0)],none⟩, ⟨none, .st 21 (.tmp 7) (.tmp 15) [],none⟩] [3, 5, 7, 10, 11, 12]) (.seq (.reg [⟨some 17, .ld (some 21) (.tmp 7) [],none⟩, ⟨some 18, .cal 177 [(.tmp 17)] true [],none⟩, ⟨some 16, .mv (.tmp 18),none⟩, ⟨some 19, .ex (.tmp 16) 0,none⟩, ⟨some 20, .ex (.tmp 16) 1,none⟩, ⟨some 8, .new [(.int .u64 0),(.int .u64 0),(.int .u64 0),(.int .u64 0)],none⟩, ⟨none, .st 4 (.tmp 8) (.tmp 19) [],none⟩, ⟨some 9, .mv (.tmp 20),none⟩] [3, 5, 8, 9, 10, 11, 12]) (.seq (.seq (.reg [⟨some 21, .mv (.tmp 9),none⟩, ⟨some 22, .bin .neq (.tmp 21) (.const (.int .i64 0)),none⟩] [3, 5, 8, 10, 11, 12, 22]) (.cnd (.tmp 22) (.seq (.reg [⟨some 4, .mv (.const (.bool false)),none⟩] [4]) .ret) .nop)) (.seq (.reg [⟨some 24, .ld (some 4) (.tmp 5) [],none⟩, ⟨some 25, .ld (some 4) (.tmp 8) [],none⟩, ⟨some 26, .cal 178 [(.tmp 24),(.tmp 25)] true [],none⟩, ⟨some 23, .mv (.tmp 26),none⟩, ⟨some 27, .ex (.tmp 23) 0,none⟩, ⟨some 28, .ex (.tmp 23) 1,none⟩, ⟨none, .st 4 (.tmp 5) (.tmp 27) [],none⟩, ⟨some 9, .mv (.tmp 28),none⟩] [3, 5, 9, 10, 11, 12]) (.seq (.reg [⟨some 29, .mv (.tmp 9),none⟩, ⟨some 30, .bin .neq (.tmp 29) (.const (.int .i64 0)),none⟩] [3, 5, 10, 11, 12, 30]) (.cnd (.tmp 30) (.seq (.reg [⟨some 4, .mv (.const (.bool false)),none⟩] [4]) .ret) .nop))))))) (.reg [⟨some 31, .bin .add (.tmp 12) (.const (.int .i64 1)),none⟩, ⟨some 12, .mv (.tmp 31),none⟩] [3, 5, 10, 11, 12]))))
noncomputable def c93 : C := (.seq (.reg [⟨some 3, .box (.tmp 1),none⟩, ⟨some 4, .mv (.const (.bool false)),none⟩] [0, 3]) (.seq (.reg [⟨some 5, .new [(.int .u64 0),(.int .u64 0),(.int .u64 0),(.int .u64 0)],none⟩] [0, 3, 5]) (.seq (.seq (.reg [⟨some 10, .mv (.tmp 0),none⟩, ⟨some 11, .len (.tmp 10),none⟩, ⟨some 12, .mv (.const (.int .i64 0)),none⟩] [3, 5, 10, 11, 12]) (.blk 0 (.lop b93_0))) (.seq (.reg [⟨some 32, .ld (some 4) (.tmp 5) [],none⟩, ⟨some 33, .ld (some 4) (.tmp 3) [],none⟩, ⟨some 34, .cal 102 [(.tmp 32),(.tmp 33)] true [],none⟩, ⟨some 35, .bin .leq (.tmp 34) (.const (.int .i64 0)),none⟩, ⟨some 4, .mv (.tmp 35),none⟩] [4]) .ret))))
noncomputable def fd93 : FD := ⟨2, c93, [.tmp 4]⟩
noncomputable def b97_0 : C := (.seq (.seq (.reg [⟨some 17, .mv (.tmp 9),none⟩, ⟨some 18, .bin .lss (.tmp 17) (.const (.int .i64 8)),none⟩] [2, 3, 4, 6, 7, 8, 9, 18]) (.cnd (.tmp 18) .nop (.exi 2))) (.seq (.blk 3 (.seq (.reg [⟨some 21, .mv (.tmp 7),none⟩, ⟨some 22, .mv (.tmp 9),none⟩, ⟨some 23, .bin .add (.tmp 21) (.tmp 22),none⟩, ⟨some 24, .iaa 16 1 (.tmp 6) (.tmp 23),none⟩, ⟨some 25, .ld none (.tmp 24) [],none⟩, ⟨some 26, .ld (some 4) (.tmp 2) [],none⟩, ⟨some 27, .mv (.tmp 7),none⟩, ⟨some 28, .cal 180 [(.tmp 26),(.tmp 27)] true [],none⟩, ⟨some 29, .ld (some 4) (.tmp 3) [],none⟩, ⟨some 30, .mv (.tmp 9),none⟩, ⟨some 31, .cal 180 [(.tmp 29),(.tmp 30)] true [],none⟩, ⟨some 32, .bin .mul (.tmp 28) (.tmp 31),none⟩, ⟨some 33, .bin .add (.tmp 25) (.tmp 32),none⟩, ⟨some 34, .mv (.tmp 8),none⟩, ⟨some 35, .bin .add (.tmp 33) (.tmp 34),none⟩, ⟨some 10, .mv (.tmp 35),none⟩] [2, 3, 4, 6, 7, 9, 10]) (.reg [⟨some 36, .mv (.tmp 7),none⟩, ⟨some 37, .mv (.tmp 9),none⟩, ⟨some 38, .bin .add (.tmp 36) (.tmp 37),none⟩, ⟨some 39, .mv (.tmp 10),none⟩, ⟨some 40, .bin .and (.tmp 39) (.const (.int .u64 4294967295)),none⟩, ⟨some 41, .mv (.tmp 10),none⟩, ⟨some 42, .bin .shr (.tmp 41) (.const (.int .u64 32)),none⟩, ⟨some 43, .iaa 16 1 (.tmp 6) (.tmp 38),none⟩, ⟨none, .st 1 (.tmp 43) (.tmp 40) [],none⟩, ⟨some 8, .mv (.tmp 42),none⟩] [2, 3, 4, 6, 7, 8, 9]))) (.reg [⟨some 19, .mv (.tmp 9),none⟩, ⟨some 20, .bin .add (.tmp 19) (.const (.int .i64 1)),none⟩, ⟨some 9, .mv (.tmp 20),none⟩] [2, 3, 4, 6, 7, 8, 9])))
noncomputable def b97_1 : C := (.seq (.seq (.reg [⟨some 13, .mv (.tmp 7),none⟩, ⟨some 14, .bin .lss (.tmp 13) (.const (.int .i64 8)),none⟩] [2, 3, 4, 6, 7, 14]) (.cnd (.tmp 14) .nop (.exi 0))) (.seq (.blk 1 (.seq (.reg [⟨some 8, .mv (.const (.int .u64 0)),none⟩] [2, 3, 4, 6, 7, 8]) (.seq (.seq (.reg [⟨some 9, .mv (.const (.int .i64 0)),none⟩] [2, 3, 4, 6, 7, 8, 9]) (.blk 2 (.lop b97_0))) (.reg [⟨some 44, .mv (.tmp 7),none⟩, ⟨some 45, .bin .add (.tmp 44) (.const (.int .i64 8)),none⟩, ⟨some 46, .mv (.tmp 8),none⟩, ⟨some 47, .iaa 16 1 (.tmp 6) (.tmp 45),none⟩, ⟨none, .st 1 (.tmp 47) (.tmp 46) [],none⟩] [2, 3, 4, 6, 7])))) (.reg [⟨some 15, .mv (.tmp 7),none⟩, ⟨some 16, .bin .add (.tmp 15) (.const (.int .i64 1)),none⟩, ⟨some 7, .mv (.tmp 16),none⟩] [2, 3, 4, 6, 7])))
noncomputable def b97_2 : C := (.seq (.seq (.reg [⟨some 49, .mv (.tmp 12),none⟩, ⟨some 50, .bin .lss (.tmp 49) (.const (.int .i64 8)),none⟩] [4, 6, 11, 12, 50]) (.cnd (.tmp 50) .nop (.exi 4))) (.seq (.blk 5 (.seq (.seq (.reg [⟨some 53, .mv (.tmp 12),none⟩, ⟨some 54, .bin .add (.tmp 53) (.const (.int .i64 8)),none⟩, ⟨some 55, .iaa 16 1 (.tmp 6) (.tmp 54),none⟩, ⟨some 56, .ld none (.tmp 55) [],none⟩, ⟨some 57, .bin .gtr (.tmp 56) (.const (.int .u64 0)),none⟩] [4, 6, 11, 12, 57]) (.cnd (.tmp 57) (.seq (.reg [⟨some 58, .bld [(.int .u64 0),(.int .u64 0),(.int .u64 0),(.int .u64 0)] [],none⟩, ⟨none, .st 4 (.tmp 4) (.tmp 58) [],none⟩, ⟨some 5, .mv (.const (.bool false)),none⟩] [4, 5]) .ret) .nop)) (.reg [⟨some 59, .mv (.tmp 12),none⟩, ⟨some 60, .bin .quo (.tmp 59) (.const (.int .i64 2)),none⟩, ⟨some 61, .mv (.tmp 12),none⟩, ⟨some 62, .bin .quo (.tmp 61) (.const (.int .i64 2)),none⟩, ⟨some 63, .iaa 4 1 (.tmp 11) (.tmp 62),none⟩, ⟨some 64, .ld none (.tmp 63) [],none⟩, ⟨some 65, .mv (.tmp 12),none⟩, ⟨some 66, .iaa 16 1 (.tmp 6) (.tmp 65),none⟩, ⟨some 67, .ld none (.tmp 66) [],none⟩, ⟨some 68, .mv (.tmp 12),none⟩, ⟨some 69, .bin .rem (.tmp 68) (.const (.int .i64 2)),none⟩, ⟨some 70, .bin .mul (.const (.int .i64 32)) (.tmp 69),none⟩, ⟨some 71, .bin .shl (.tmp 67) (.tmp 70),none⟩, ⟨some 72, .bin .or (.tmp 64) (.tmp 71),none⟩, ⟨some 73, .iaa 4 1 (.tmp 11) (.tmp 60),none⟩, ⟨none, .st 1 (.tmp 73) (.tmp 72) [],none⟩] [4, 6, 11, 12]))) (.reg [⟨some 51, .mv (.tmp 12),none⟩, ⟨some 52, .bin .add (.tmp 51) (.const (.int .i64 1)),none⟩, ⟨some 12, .mv (.tmp 52),none⟩] [4, 6, 11, 12])))
noncomputable def c97 : C := (.seq (.reg [⟨some 2, .box (.tmp 0),none⟩, ⟨some 3, .box (.tmp 1),none⟩, ⟨some 4, .new [(.int .u64 0),(.int .u64 0),(.int .u64 0),(.int .u64 0)],none⟩, ⟨some 5, .mv (.const (.bool false)),none⟩] [2, 3, 4]) (.seq (.reg [⟨some 6, .new [(.int .u64 0),(.int .u64 0),(.int .u64 0),(.int .u64 0),(.int .u64 0),(.int .u64 0),(.int .u64 0),(.int .u64 0),(.int .u64 0),(.int .u64 0),(.int .u64 0),(.int .u64 0),(.int .u64 0),(.int .u64 0),(.int .u64 0),(.int .u64 0)],none⟩] [2, 3, 4, 6]) (.seq (.seq (.reg [⟨some 7, .mv (.const (.int .i64 0)),none⟩] [2, 3, 4, 6, 7]) (.blk 0 (.lop b97_1))) (.seq (.reg [⟨some 48, .bld [(.int .u64 0),(.int .u64 0),(.int .u64 0),(.int .u64 0)] [],none⟩, ⟨some 11, .new [(.int .u64 0),(.int .u64 0),(.int .u64 0),(.int .u64 0)],none⟩, ⟨none, .st 4 (.tmp 11) (.tmp 48) [],none⟩] [4, 6, 11]) (.seq (.seq (.reg [⟨some 12, .mv (.const (.int .i64 0)),none⟩] [4, 6, 11, 12]) (.blk 4 (.lop b97_2))) (.seq (.reg [⟨some 74, .ld (some 4) (.tmp 11) [],none⟩, ⟨none, .st 4 (.tmp 4) (.tmp 74) [],none⟩, ⟨some 5, .mv (.const (.bool true)),none⟩] [4, 5]) .ret))))))
noncomputable def fd97 : FD := ⟨2, c97, [.cell 4 (some 4),.tmp 5]⟩
noncomputable def c126 : C := (.seq (.reg [⟨some 1, .box (.tmp 0),none⟩, ⟨some 2, .mv (.const (.bool false)),none⟩] [1]) (.seq (.reg [⟨some 3, .fa 0 (.tmp 1),none⟩, ⟨some 4, .ld none (.tmp 3) [],none⟩, ⟨some 5, .bin .geq (.tmp 4) (.const (.int .i64 0)),none⟩, ⟨some 6, .mv (.tmp 5),none⟩, ⟨some 7, .fa 0 (.tmp 1),some (6, true)⟩, ⟨some 8, .ld none (.tmp 7) [],some (6, true)⟩, ⟨some 9, .bin .leq (.tmp 8) (.const (.int .i64 1099511627776)),some (6, true)⟩, ⟨some 10, .pick (.tmp 6) (.tmp 9) (.const (.bool false)),none⟩, ⟨some 11, .mv (.tmp 10),none⟩, ⟨some 12, .fa 5 (.tmp 1),some (11, true)⟩, ⟨some 13, .ld none (.tmp 12) [],some (11, true)⟩, ⟨some 14, .bin .geq (.tmp 13) (.const (.int .i64 0)),some (11, true)⟩, ⟨some 15, .pick (.tmp 11) (.tmp 14) (.const (.bool false)),none⟩, ⟨some 16, .mv (.tmp 15),none⟩, ⟨some 17, .fa 5 (.tmp 1),some (16, true)⟩, ⟨some 18, .ld none (.tmp 17) [],some (16, true)⟩, ⟨some 19, .bin .leq (.tmp 18) (.const (.int .i64 1099511627776)),some (16, true)⟩, ⟨some 20, .pick (.tmp 16) (.tmp 19) (.const (.bool false)),none⟩, ⟨some 2, .mv (.tmp 20),none⟩] [2]) .ret))
noncomputable def fd126 : FD := ⟨1, c126, [.tmp 2]⟩
noncomputable def b130_0 : C := (.seq (.reg [⟨some 13, .bin .lss (.tmp 12) (.tmp 11),none⟩] [1, 2, 6, 7, 10, 11, 12, 13]) (.seq (.cnd (.tmp 13) .nop (.exi 0)) (.seq (.blk 1 (.seq (.reg [⟨some 14, .ia 21 (.tmp 10) (.tmp 12),none⟩, ⟨some 15, .ld (some 21) (.tmp 14) [],none⟩, ⟨some 9, .new [(.int .i64 0),(.int .i64 0),(.int .u64 0),(.int .u64 0),(.int .u64 0),(.int .u64 0),(.int .u64 0),(.int .u64 0),(.int .u64 0),(.int .u64 0),(.int .u64 0),(.int .u64 0),(.int .u64 0),(.int .u64 0),(.int .u64 0),(.int .u64 0),(.int .u64 0),(.int .u64 0),(.int .i64 0),(.slice none 0 0),(.slice none 0 0)],none⟩, ⟨none, .st 21 (.tmp 9) (.tmp 15) [],none⟩] [1, 2, 6, 7, 9, 10, 11, 12]) (.seq (.seq (.reg [⟨some 16, .fa 0 (.tmp 9),none⟩, ⟨some 17, .ld none (.tmp 16) [],none⟩, ⟨some 18, .mv (.tmp 1),none⟩, ⟨some 19, .bin .lss (.tmp 17) (.tmp 18),none⟩, ⟨some 20, .mv (.tmp 19),none⟩, ⟨some 21, .fa 0 (.tmp 9),some (20, false)⟩, ⟨some 22, .ld none (.tmp 21) [],some (20, false)⟩, ⟨some 23, .mv (.tmp 1),some (20, false)⟩, ⟨some 24, .bin .eql (.tmp 22) (.tmp 23),some (20, false)⟩, ⟨some 25, .mv (.tmp 24),some (20, false)⟩, ⟨some 26, .fa 1 (.tmp 9),some (25, true)⟩, ⟨some 27, .ld none (.tmp 26) [],some (25, true)⟩, ⟨some 28, .mv (.tmp 2),some (25, true)⟩, ⟨some 29, .bin .lss (.tmp 27) (.tmp 28),some (25, true)⟩, ⟨some 30, .pick (.tmp 25) (.tmp 29) (.const (.bool false)),some (20, false)⟩, ⟨some 31, .pick (.tmp 20) (.const (.bool true)) (.tmp 30),none⟩] [1, 2, 6, 7, 9, 10, 11, 12, 31]) (.cnd (.tmp 31) (.reg [⟨some 32, .mv (.tmp 6),none⟩, ⟨some 33, .bin .add (.tmp 32) (.const (.int .i64 1)),none⟩, ⟨some 6, .mv (.tmp 33),none⟩] [1, 2, 6, 7, 9, 10, 11, 12]) .nop)) (.seq (.reg [⟨some 34, .fa 0 (.tmp 9),none⟩, ⟨some 35, .ld none (.tmp 34) [],none⟩, ⟨some 36, .mv (.tmp 1),none⟩, ⟨some 37, .bin .leq (.tmp 35) (.tmp 36),none⟩] [1, 2, 6, 7, 10, 11, 12, 37]) (.cnd (.tmp 37) (.reg [⟨some 38, .mv (.tmp 7),none⟩, ⟨some 39, .bin .add (.tmp 38) (.const (.int .i64 1)),none⟩, ⟨some 7, .mv (.tmp 39),none⟩] [1, 2, 6, 7, 10, 11, 12]) .nop))))) (.reg [⟨some 40, .bin .add (.tmp 12) (.const (.int .i64 1)),none⟩, ⟨some 12, .mv (.tmp 40),none⟩] [1, 2, 6, 7, 10, 11, 12]))))
noncomputable def c130 : C := (.seq (.reg [⟨some 6, .mv (.const (.int .i64 0)),none⟩, ⟨some 7, .mv (.const (.int .i64 0)),none⟩] [0, 1, 2, 6, 7]) (.seq (.seq (.reg [⟨some 10, .mv (.tmp 0),none⟩, ⟨some 11, .len (.tmp 10),none⟩, ⟨some 12, .mv (.const (.int .i64 0)),none⟩] [1, 2, 6, 7, 10, 11, 12]) (.blk 0 (.lop b130_0))) (.seq (.reg [⟨some 41, .mv (.tmp 6),none⟩, ⟨some 42, .mv (.tmp 7),none⟩, ⟨some 6, .mv (.tmp 41),none⟩, ⟨some 7, .mv (.tmp 42),none⟩] [6, 7]) .ret)))
noncomputable def fd130 : FD := ⟨3, c130, [.tmp 6, .tmp 7]⟩
noncomputable def b138_0 : C := (.seq (.seq (.reg [⟨some 5, .mv (.tmp 4),none⟩, ⟨some 6, .mv (.tmp 0),none⟩, ⟨some 7, .lens (.tmp 6),none⟩, ⟨some 8, .bin .lss (.tmp 5) (.tmp 7),none⟩] [0, 3, 4, 8]) (.cnd (.tmp 8) .nop (.exi 0))) (.seq (.blk 1 (.reg [⟨some 11, .mv (.tmp 3),none⟩, ⟨some 12, .mv (.tmp 0),none⟩, ⟨some 13, .mv (.tmp 4),none⟩, ⟨some 14, .ixs (.tmp 12) (.tmp 13),none⟩, ⟨some 15, .cvi .u64 (.tmp 14),none⟩, ⟨some 16, .bin .xor (.tmp 11) (.tmp 15),none⟩, ⟨some 17, .bin .mul (.tmp 16) (.const (.int .u64 1099511628211)),none⟩, ⟨some 3, .mv (.tmp 17),none⟩] [0, 3, 4])) (.reg [⟨some 9, .mv (.tmp 4),none⟩, ⟨some 10, .bin .add (.tmp 9) (.const (.int .i64 1)),none⟩, ⟨some 4, .mv (.tmp 10),none⟩] [0, 3, 4])))
noncomputable def c138 : C := (.seq (.reg [⟨some 2, .mv (.const (.int .u64 0)),none⟩] [0]) (.seq (.reg [⟨some 3, .mv (.const (.int .u64 14695981039346656037)),none⟩] [0, 3]) (.seq (.seq (.reg [⟨some 4, .mv (.const (.int .i64 0)),none⟩] [0, 3, 4]) (.blk 0 (.lop b138_0))) (.seq (.reg [⟨some 18, .mv (.tmp 3),none⟩, ⟨some 2, .mv (.tmp 18),none⟩] [2]) .ret))))
noncomputable def fd138 : FD := ⟨1, c138, [.tmp 2]⟩
noncomputable def c158 : C := (.seq (.reg [⟨some 4, .mv (.const (.bool false)),none⟩] [0, 1]) (.seq (.reg [⟨some 5, .mv (.tmp 0),none⟩, ⟨some 6, .mv (.tmp 1),none⟩, ⟨some 7, .cal 136 [(.tmp 5),(.tmp 6)] true [],none⟩, ⟨some 8, .bin .geq (.tmp 7) (.const (.int .i64 0)),none⟩, ⟨some 4, .mv (.tmp 8),none⟩] [4]) .ret))
noncomputable def fd158 : FD := ⟨2, c158, [.tmp 4]⟩
noncomputable def b170_0 : C := (.seq (.reg [⟨some 8, .bin .lss (.tmp 7) (.tmp 6),none⟩] [0, 3, 6, 7, 8]) (.seq (.cnd (.tmp 8) .nop (.exi 0)) (.seq (.blk 1 (.seq (.reg [⟨some 9, .mv (.tmp 7),none⟩, ⟨some 4, .mv (.tmp 9),none⟩] [0, 3, 4, 6, 7]) (.reg [⟨some 10, .mv (.tmp 3),none⟩, ⟨some 11, .mv (.tmp 0),none⟩, ⟨some 12, .mv (.tmp 4),none⟩, ⟨some 13, .ixs (.tmp 11) (.tmp 12),none⟩, ⟨some 14, .cvi .u64 (.tmp 13),none⟩, ⟨some 15, .bin .xor (.tmp 10) (.tmp 14),none⟩, ⟨some 16, .bin .mul (.tmp 15) (.const (.int .u64 1099511628211)),none⟩, ⟨some 3, .mv (.tmp 16),none⟩] [0, 3, 6, 7]))) (.reg [⟨some 17, .bin .add (.tmp 7) (.const (.int .i64 1)),none⟩, ⟨some 7, .mv (.tmp 17),none⟩] [0, 3, 6, 7]))))
noncomputable def c170 : C := (.seq (.reg [⟨some 2, .mv (.const (.int .u64 0)),none⟩] [0]) (.seq (.reg [⟨some 3, .mv (.const (.int .u64 14695981039346656037)),none⟩] [0, 3]) (.seq (.seq (.reg [⟨some 5, .mv (.tmp 0),none⟩, ⟨some 6, .lens (.tmp 5),none⟩, ⟨some 7, .mv (.const (.int .i64 0)),none⟩] [0, 3, 6, 7]) (.blk 0 (.lop b170_0))) (.seq (.reg [⟨some 18, .mv (.tmp 3),none⟩, ⟨some 2, .mv (.tmp 18),none⟩] [2]) .ret))))
noncomputable def fd170 : FD := ⟨1, c170, [.tmp 2]⟩
noncomputable def c174 : C := (.seq (.reg [⟨some 2, .box (.tmp 0),none⟩, ⟨some 3, .box (.tmp 1),none⟩, ⟨some 4, .mv (.const (.bool false)),none⟩] [2, 3]) (.seq (.reg [⟨some 5, .ld (some 21) (.tmp 2) [],none⟩, ⟨some 6, .cal 116 [(.tmp 5)] true [],none⟩, ⟨some 7, .bin .eql (.tmp 6) (.const (.int .i64 0)),none⟩, ⟨some 8, .mv (.tmp 7),none⟩, ⟨some 9, .ld (some 21) (.tmp 3) [],some (8, true)⟩, ⟨some 10, .cal 116 [(.tmp 9)] true [],some (8, true)⟩, ⟨some 11, .bin .eql (.tmp 10) (.const (.int .i64 0)),some (8, true)⟩, ⟨some 12, .pick (.tmp 8) (.tmp 11) (.const (.bool false)),none⟩, ⟨some 13, .mv (.tmp 12),none⟩, ⟨some 14, .fa 0 (.tmp 2),some (13, true)⟩, ⟨some 15, .ld none (.tmp 14) [],some (13, true)⟩, ⟨some 16, .fa 0 (.tmp 3),some (13, true)⟩, ⟨some 17, .ld none (.tmp 16) [],some (13, true)⟩, ⟨some 18, .bin .eql (.tmp 15) (.tmp 17),some (13, true)⟩, ⟨some 19, .pick (.tmp 13) (.tmp 18) (.const (.bool false)),none⟩, ⟨some 20, .mv (.tmp 19),none⟩, ⟨some 21, .fa 1 (.tmp 2),some (20, true)⟩, ⟨some 22, .ld none (.tmp 21) [],some (20, true)⟩, ⟨some 23, .fa 1 (.tmp 3),some (20, true)⟩, ⟨some 24, .ld none (.tmp 23) [],some (20, true)⟩, ⟨some 25, .bin .eql (.tmp 22) (.tmp 24),some (20, true)⟩, ⟨some 26, .pick (.tmp 20) (.tmp 25) (.const (.bool false)),none⟩, ⟨some 4, .mv (.tmp 26),none⟩] [4]) .ret))
noncomputable def fd174 : FD := ⟨2, c174, [.tmp 4]⟩
noncomputable def b178_0 : C := (.seq (.reg [⟨some 10, .bin .lss (.tmp 9) (.const (.int .i64 4)),none⟩] [2, 3, 4, 6, 7, 9, 10]) (.seq (.cnd (.tmp 10) .nop (.exi 0)) (.seq (.blk 1 (.seq (.reg [⟨some 11, .mv (.tmp 9),none⟩, ⟨some 8, .mv (.tmp 11),none⟩] [2, 3, 4, 6, 7, 8, 9]) (.reg [⟨some 13, .mv (.tmp 8),none⟩, ⟨some 14, .mv (.tmp 8),none⟩, ⟨some 15, .iaa 4 1 (.tmp 2) (.tmp 14),none⟩, ⟨some 16, .ld none (.tmp 15) [],none⟩, ⟨some 17, .mv (.tmp 8),none⟩, ⟨some 18, .iaa 4 1 (.tmp 3) (.tmp 17),none⟩, ⟨some 19, .ld none (.tmp 18) [],none⟩, ⟨some 20, .mv (.tmp 7),none⟩, ⟨some 21, .ext 0 [(.tmp 16),(.tmp 19),(.tmp 20)],none⟩, ⟨some 12, .mv (.tmp 21),none⟩, ⟨some 22, .ex (.tmp 12) 0,none⟩, ⟨some 23, .ex (.tmp 12) 1,none⟩, ⟨some 24, .iaa 4 1 (.tmp 6) (.tmp 13),none⟩, ⟨none, .st 1 (.tmp 24) (.tmp 22) [],none⟩, ⟨some 7, .mv (.tmp 23),none⟩] [2, 3, 4, 6, 7, 9]))) (.reg [⟨some 25, .bin .add (.tmp 9) (.const (.int .i64 1)),none⟩, ⟨some 9, .mv (.tmp 25),none⟩] [2, 3, 4, 6, 7, 9]))))
noncomputable def c178 : C := (.seq (.reg [⟨some 2, .box (.tmp 0),none⟩, ⟨some 3, .box (.tmp 1),none⟩, ⟨some 4, .new [(.int .u64 0),(.int .u64 0),(.int .u64 0),(.int .u64 0)],none⟩, ⟨some 5, .mv (.const (.int .i64 0)),none⟩] [2, 3, 4]) (.seq (.reg [⟨some 6, .new [(.int .u64 0),(.int .u64 0),(.int .u64 0),(.int .u64 0)],none⟩] [2, 3, 4, 6]) (.seq (.reg [⟨some 7, .mv (.const (.int .u64 0)),none⟩] [2, 3, 4, 6, 7]) (.seq (.seq (.reg [⟨some 9, .mv (.const (.int .i64 0)),none⟩] [2, 3, 4, 6, 7, 9]) (.blk 0 (.lop b178_0))) (.seq (.seq (.reg [⟨some 26, .mv (.tmp 7),none⟩, ⟨some 27, .bin .gtr (.tmp 26) (.const (.int .u64 0)),none⟩] [4, 6, 27]) (.cnd (.tmp 27) (.seq (.reg [⟨some 28, .bld [(.int .u64 0),(.int .u64 0),(.int .u64 0),(.int .u64 0)] [],none⟩, ⟨none, .st 4 (.tmp 4) (.tmp 28) [],none⟩, ⟨some 5, .mv (.const (.int .i64 8)),none⟩] [4, 5]) .ret) .nop)) (.seq (.reg [⟨some 29, .ld (some 4) (.tmp 6) [],none⟩, ⟨none, .st 4 (.tmp 4) (.tmp 29) [],none⟩, ⟨some 5, .mv (.const (.int .i64 0)),none⟩] [4, 5]) .ret))))))
noncomputable def fd178 : FD := ⟨2, c178, [.cell 4 (some 4),.tmp 5]⟩
noncomputable def b190_0 : C := (.seq (.reg [⟨some 28, .bin .lss (.tmp 27) (.tmp 26),none⟩] [0, 5, 25, 26, 27, 28]) (.seq (.cnd (.tmp 28) .nop (.exi 0)) (.seq (.blk 1 (.seq (.reg [⟨some 29, .mv (.tmp 27),none⟩, ⟨some 30, .ia 1 (.tmp 25) (.tmp 27),none⟩, ⟨some 31, .ld none (.tmp 30) [],none⟩, ⟨some 6, .mv (.tmp 29),none⟩, ⟨some 7, .mv (.tmp 31),none⟩] [0, 5, 6, 7, 25, 26, 27]) (.seq (.reg [⟨some 33, .mv (.tmp 7),none⟩, ⟨some 34, .cal 241 [(.tmp 33)] true [],none⟩, ⟨some 32, .mv (.tmp 34),none⟩, ⟨some 35, .ex (.tmp 32) 0,none⟩, ⟨some 36, .ex (.tmp 32) 1,none⟩, ⟨some 8, .mv (.tmp 35),none⟩, ⟨some 9, .mv (.tmp 36),none⟩] [0, 5, 6, 8, 9, 25, 26, 27]) (.seq (.seq (.reg [⟨some 37, .mv (.tmp 9),none⟩, ⟨some 38, .bin .neq (.tmp 37) (.const (.int .i64 0)),none⟩] [0, 5, 6, 8, 9, 25, 26, 27, 38]) (.cnd (.tmp 38) (.seq (.reg [⟨some 39, .mv (.tmp 9),none⟩, ⟨some 4, .mv (.tmp 39),none⟩] [4]) .ret) .nop)) (.reg [⟨some 40, .mv (.tmp 5),none⟩, ⟨some 41, .mv (.tmp 40),none⟩, ⟨some 42, .mv (.tmp 8),some (41, false)⟩, ⟨some 43, .mv (.tmp 0),some (41, false)⟩, ⟨some 44, .mv (.tmp 6),some (41, false)⟩, ⟨some 45, .ia 1 (.tmp 43) (.tmp 44),some (41, false)⟩, ⟨some 46, .ld none (.tmp 45) [],some (41, false)⟩, ⟨some 47, .bin .neq (.tmp 42) (.tmp 46),some (41, false)⟩, ⟨some 48, .pick (.tmp 41) (.const (.bool true)) (.tmp 47),none⟩, ⟨some 5, .mv (.tmp 48),none⟩] [0, 5, 25, 26, 27]))))) (.reg [⟨some 49, .bin .add (.tmp 27) (.const (.int .i64 1)),none⟩, ⟨some 27, .mv (.tmp 49),none⟩] [0, 5, 25, 26, 27]))))
noncomputable def c190 : C := (.seq (.reg [⟨some 4, .mv (.const (.int .i64 0)),none⟩] [0, 1]) (.seq (.seq (.reg [⟨some 10, .mv (.tmp 1),none⟩, ⟨some 11, .len (.tmp 10),none⟩, ⟨some 12, .bin .lss (.tmp 11) (.const (.int .i64 1)),none⟩, ⟨some 13, .mv (.tmp 12),none⟩, ⟨some 14, .mv (.tmp 1),some (13, false)⟩, ⟨some 15, .len (.tmp 14),some (13, false)⟩, ⟨some 16, .bin .gtr (.tmp 15) (.const (.int .i64 4)),some (13, false)⟩, ⟨some 17, .pick (.tmp 13) (.const (.bool true)) (.tmp 16),none⟩, ⟨some 18, .mv (.tmp 17),none⟩, ⟨some 19, .mv (.tmp 0),some (18, false)⟩, ⟨some 20, .len (.tmp 19),some (18, false)⟩, ⟨some 21, .mv (.tmp 1),some (18, false)⟩, ⟨some 22, .len (.tmp 21),some (18, false)⟩, ⟨some 23, .bin .neq (.tmp 20) (.tmp 22),some (18, false)⟩, ⟨some 24, .pick (.tmp 18) (.const (.bool true)) (.tmp 23),none⟩] [0, 1, 24]) (.cnd (.tmp 24) (.seq (.reg [⟨some 4, .mv (.const (.int .i64 1)),none⟩] [4]) .ret) .nop)) (.seq (.reg [⟨some 5, .mv (.const (.bool false)),none⟩] [0, 1, 5]) (.seq (.seq (.reg [⟨some 25, .mv (.tmp 1),none⟩, ⟨some 26, .len (.tmp 25),none⟩, ⟨some 27, .mv (.const (.int .i64 0)),none⟩] [0, 5, 25, 26, 27]) (.blk 0 (.lop b190_0))) (.seq (.seq (.reg [⟨some 50, .mv (.tmp 5),none⟩] [50]) (.cnd (.tmp 50) (.seq (.reg [⟨some 4, .mv (.const (.int .i64 1)),none⟩] [4]) .ret) .nop)) (.seq (.reg [⟨some 4, .mv (.const (.int .i64 0)),none⟩] [4]) .ret))))))
noncomputable def fd190 : FD := ⟨2, c190, [.tmp 4]⟩
noncomputable def c194 : C := (.seq (.reg [⟨some 2, .mv (.const (.slice none 0 0)),none⟩] [0]) (.seq (.seq (.reg [⟨some 3, .mv (.tmp 0),none⟩, ⟨some 4, .eqn false false (.tmp 3) (.const (.slice none 0 0)),none⟩] [0, 4]) (.cnd (.tmp 4) (.seq (.reg [⟨some 2, .mv (.const (.slice none 0 0)),none⟩] [2]) .ret) .nop)) (.seq (.reg [⟨some 5, .bldS 1 [(.int .u64 0)] 0 [],none⟩, ⟨some 6, .mv (.tmp 0),none⟩, ⟨some 7, .app 1 (.tmp 5) (.tmp 6) [],none⟩, ⟨some 2, .mv (.tmp 7),none⟩] [2]) .ret)))
noncomputable def fd194 : FD := ⟨1, c194, [.tmp 2]⟩
noncomputable def b199_0 : C := (.seq (.reg [⟨some 14, .bin .lss (.tmp 13) (.tmp 12),none⟩] [3, 11, 12, 13, 14]) (.seq (.cnd (.tmp 14) .nop (.exi 0)) (.seq (.blk 1 (.seq (.reg [⟨some 15, .mv (.tmp 13),none⟩, ⟨some 16, .ia 22 (.tmp 11) (.tmp 13),none⟩, ⟨some 17, .ld (some 22) (.tmp 16) [],none⟩, ⟨some 5, .new [(.int .i64 0),(.int .i64 0),(.int .u64 0),(.int .u64 0),(.int .u64 0),(.int .u64 0),(.int .u64 0),(.int .u64 0),(.int .u64 0),(.int .u64 0),(.int .u64 0),(.int .u64 0),(.int .u64 0),(.int .u64 0),(.int .u64 0),(.int .u64 0),(.int .u64 0),(.int .u64 0),(.int .i64 0),(.slice none 0 0),(.slice none 0 0),(.int .i64 0)],none⟩, ⟨some 4, .mv (.tmp 15),none⟩, ⟨none, .st 22 (.tmp 5) (.tmp 17) [],none⟩] [3, 4, 5, 11, 12, 13]) (.seq (.reg [⟨some 19, .fa 0 (.tmp 5),none⟩, ⟨some 20, .ld (some 21) (.tmp 19) [],none⟩, ⟨some 21, .cal 89 [(.tmp 20)] true [],none⟩, ⟨some 18, .mv (.tmp 21),none⟩, ⟨some 22, .ex (.tmp 18) 0,none⟩, ⟨some 23, .ex (.tmp 18) 1,none⟩, ⟨some 6, .mv (.tmp 22),none⟩, ⟨some 7, .mv (.tmp 23),none⟩] [3, 4, 5, 6, 7, 11, 12, 13]) (.seq (.seq (.reg [⟨some 24, .mv (.tmp 7),none⟩, ⟨some 25, .bin .neq (.tmp 24) (.const (.int .i64 0)),none⟩, ⟨some 26, .mv (.tmp 25),none⟩, ⟨some 27, .mv (.tmp 4),some (26, false)⟩, ⟨some 28, .bin .gtr (.tmp 27) (.const (.int .i64 0)),some (26, false)⟩, ⟨some 29, .mv (.tmp 28),some (26, false)⟩, ⟨some 30, .mv (.tmp 6),some (29, true)⟩, ⟨some 31, .mv (.tmp 3),some (29, true)⟩, ⟨some 32, .bin .leq (.tmp 30) (.tmp 31),some (29, true)⟩, ⟨some 33, .pick (.tmp 29) (.tmp 32) (.const (.bool false)),some (26, false)⟩, ⟨some 34, .pick (.tmp 26) (.const (.bool true)) (.tmp 33),none⟩, ⟨some 35, .mv (.tmp 34),none⟩, ⟨some 36, .fa 21 (.tmp 5),some (35, false)⟩, ⟨some 37, .ld none (.tmp 36) [],some (35, false)⟩, ⟨some 38, .bin .lss (.tmp 37) (.const (.int .i64 0)),some (35, false)⟩, ⟨some 39, .pick (.tmp 35) (.const (.bool true)) (.tmp 38),none⟩, ⟨some 40, .mv (.tmp 39),none⟩, ⟨some 41, .fa 21 (.tmp 5),some (40, false)⟩, ⟨some 42, .ld none (.tmp 41) [],some (40, false)⟩, ⟨some 43, .bin .gtr (.tmp 42) (.const (.int .i64 1099511627776)),some (40, false)⟩, ⟨some 44, .pick (.tmp 40) (.const (.bool true)) (.tmp 43),none⟩] [6, 11, 12, 13, 44]) (.cnd (.tmp 44) (.seq (.reg [⟨some 2, .mv (.const (.bool false)),none⟩] [2]) .ret) .nop)) (.reg [⟨some 45, .mv (.tmp 6),none⟩, ⟨some 3, .mv (.tmp 45),none⟩] [3, 11, 12, 13]))))) (.reg [⟨some 46, .bin .add (.tmp 13) (.const (.int .i64 1)),none⟩, ⟨some 13, .mv (.tmp 46),none⟩] [3, 11, 12, 13]))))
noncomputable def c199 : C := (.seq (.reg [⟨some 2, .mv (.const (.bool false)),none⟩] [0]) (.seq (.seq (.reg [⟨some 8, .mv (.tmp 0),none⟩, ⟨some 9, .len (.tmp 8),none⟩, ⟨some 10, .bin .gtr (.tmp 9) (.const (.int .i64 48)),none⟩] [0, 10]) (.cnd (.tmp 10) (.seq (.reg [⟨some 2, .mv (.const (.bool false)),none⟩] [2]) .ret) .nop)) (.seq (.reg [⟨some 3, .mv (.const (.int .u64 0)),none⟩] [0, 3]) (.seq (.seq (.reg [⟨some 11, .mv (.tmp 0),none⟩, ⟨some 12, .len (.tmp 11),none⟩, ⟨some 13, .mv (.const (.int .i64 0)),none⟩] [3, 11, 12, 13]) (.blk 0 (.lop b199_0))) (.seq (.reg [⟨some 2, .mv (.const (.bool true)),none⟩] [2]) .ret)))))
noncomputable def fd199 : FD := ⟨1, c199, [.tmp 2]⟩
noncomputable def b203_0 : C := (.seq (.seq (.reg [⟨some 29, .mv (.tmp 5),none⟩, ⟨some 30, .mv (.tmp 4),none⟩, ⟨some 31, .len (.tmp 30),none⟩, ⟨some 32, .bin .lss (.tmp 29) (.tmp 31),none⟩] [0, 3, 4, 5, 32]) (.cnd (.tmp 32) .nop (.exi 2))) (.seq (.blk 3 (.seq (.reg [⟨some 35, .mv (.tmp 4),none⟩, ⟨some 36, .mv (.tmp 5),none⟩, ⟨some 37, .ia 1 (.tmp 35) (.tmp 36),none⟩, ⟨some 38, .ld none (.tmp 37) [],none⟩, ⟨some 39, .mv (.tmp 4),none⟩, ⟨some 40, .mv (.tmp 5),none⟩, ⟨some 41, .bin .sub (.tmp 40) (.const (.int .i64 1)),none⟩, ⟨some 42, .ia 1 (.tmp 39) (.tmp 41),none⟩, ⟨some 43, .ld none (.tmp 42) [],none⟩, ⟨some 44, .bin .neq (.tmp 38) (.tmp 43),none⟩] [0, 3, 4, 5, 44]) (.cnd (.tmp 44) (.seq (.reg [⟨some 45, .mv (.tmp 0),none⟩, ⟨some 46, .mv (.tmp 3),none⟩, ⟨some 47, .mv (.tmp 4),none⟩, ⟨some 48, .mv (.tmp 5),none⟩, ⟨some 49, .ia 1 (.tmp 47) (.tmp 48),none⟩, ⟨some 50, .ld none (.tmp 49) [],none⟩, ⟨some 51, .ia 1 (.tmp 45) (.tmp 46),none⟩, ⟨none, .st 1 (.tmp 51) (.tmp 50) [],none⟩] [0, 3, 4, 5]) (.reg [⟨some 52, .mv (.tmp 3),none⟩, ⟨some 53, .bin .add (.tmp 52) (.const (.int .i64 1)),none⟩, ⟨some 3, .mv (.tmp 53),none⟩] [0, 3, 4, 5])) .nop))) (.reg [⟨some 33, .mv (.tmp 5),none⟩, ⟨some 34, .bin .add (.tmp 33) (.const (.int .i64 1)),none⟩, ⟨some 5, .mv (.tmp 34),none⟩] [0, 3, 4, 5])))
noncomputable def b203_1 : C := (.seq (.seq (.reg [⟨some 10, .mv (.tmp 3),none⟩, ⟨some 11, .mv (.tmp 0),none⟩, ⟨some 12, .len (.tmp 11),none⟩, ⟨some 13, .bin .lss (.tmp 10) (.tmp 12),none⟩] [0, 3, 13]) (.cnd (.tmp 13) .nop (.exi 0))) (.seq (.blk 1 (.seq (.reg [⟨some 16, .mv (.tmp 0),none⟩, ⟨some 17, .mv (.tmp 3),none⟩, ⟨some 18, .ia 1 (.tmp 16) (.tmp 17),none⟩, ⟨some 19, .ld none (.tmp 18) [],none⟩, ⟨some 20, .mv (.tmp 0),none⟩, ⟨some 21, .mv (.tmp 3),none⟩, ⟨some 22, .bin .sub (.tmp 21) (.const (.int .i64 1)),none⟩, ⟨some 23, .ia 1 (.tmp 20) (.tmp 22),none⟩, ⟨some 24, .ld none (.tmp 23) [],none⟩, ⟨some 25, .bin .eql (.tmp 19) (.tmp 24),none⟩] [0, 3, 25]) (.cnd (.tmp 25) (.seq (.reg [⟨some 26, .mv (.tmp 0),none⟩, ⟨some 27, .mv (.tmp 3),none⟩, ⟨some 28, .sli 1 (.tmp 26) (some (.tmp 27)) none none,none⟩, ⟨some 4, .mv (.tmp 28),none⟩] [0, 3, 4]) (.seq (.seq (.reg [⟨some 5, .mv (.const (.int .i64 1)),none⟩] [0, 3, 4, 5]) (.blk 2 (.lop b203_0))) (.seq (.reg [⟨some 54, .mv (.tmp 0),none⟩, ⟨some 55, .mv (.tmp 3),none⟩, ⟨some 56, .sli 1 (.tmp 54) (some (.tmp 55)) none none,none⟩, ⟨none, .clr 1 [(.int .u64 0)] (.tmp 56),none⟩] [0, 3]) (.seq (.reg [⟨some 57, .mv (.tmp 0),none⟩, ⟨some 58, .mv (.tmp 3),none⟩, ⟨some 59, .sli 1 (.tmp 57) none (some (.tmp 58)) none,none⟩, ⟨some 2, .mv (.tmp 59),none⟩] [2]) .ret)))) .nop))) (.reg [⟨some 14, .mv (.tmp 3),none⟩, ⟨some 15, .bin .add (.tmp 14) (.const (.int .i64 1)),none⟩, ⟨some 3, .mv (.tmp 15),none⟩] [0, 3])))
noncomputable def c203 : C := (.seq (.reg [⟨some 2, .mv (.const (.slice none 0 0)),none⟩] [0]) (.seq (.seq (.reg [⟨some 6, .mv (.tmp 0),none⟩, ⟨some 7, .len (.tmp 6),none⟩, ⟨some 8, .bin .lss (.tmp 7) (.const (.int .i64 2)),none⟩] [0, 8]) (.cnd (.tmp 8) (.seq (.reg [⟨some 9, .mv (.tmp 0),none⟩, ⟨some 2, .mv (.tmp 9),none⟩] [2]) .ret) .nop)) (.seq (.seq (.reg [⟨some 3, .mv (.const (.int .i64 1)),none⟩] [0, 3]) (.blk 0 (.lop b203_1))) (.seq (.reg [⟨some 60, .mv (.tmp 0),none⟩, ⟨some 2, .mv (.tmp 60),none⟩] [2]) .ret))))
noncomputable def fd203 : FD := ⟨1, c203, [.tmp 2]⟩
noncomputable def b211_0 : C := (.seq (.reg [⟨some 8, .bin .lss (.tmp 7) (.const (.int .i64 4)),none⟩] [0, 7, 8]) (.seq (.cnd (.tmp 8) .nop (.exi 0)) (.seq (.blk 1 (.seq (.reg [⟨some 9, .mv (.tmp 7),none⟩, ⟨some 4, .mv (.tmp 9),none⟩] [0, 4, 7]) (.seq (.reg [⟨some 10, .mv (.tmp 0),none⟩, ⟨some 11, .mv (.tmp 4),none⟩, ⟨some 12, .bin .shl (.const (.int .i64 128)) (.tmp 11),none⟩, ⟨some 13, .bin .sub (.tmp 12) (.const (.int .i64 16)),none⟩, ⟨some 14, .bin .leq (.tmp 10) (.tmp 13),none⟩] [0, 4, 7, 14]) (.cnd (.tmp 14) (.seq (.reg [⟨some 15, .mv (.tmp 4),none⟩, ⟨some 2, .mv (.tmp 15),none⟩, ⟨some 3, .mv (.const (.int .i64 0)),none⟩] [2, 3]) .ret) .nop)))) (.reg [⟨some 16, .bin .add (.tmp 7) (.const (.int .i64 1)),none⟩, ⟨some 7, .mv (.tmp 16),none⟩] [0, 7]))))
noncomputable def c211 : C := (.seq (.reg [⟨some 2, .mv (.const (.int .i64 0)),none⟩, ⟨some 3, .mv (.const (.int .i64 0)),none⟩] [0]) (.seq (.seq (.reg [⟨some 5, .mv (.tmp 0),none⟩, ⟨some 6, .bin .lss (.tmp 5) (.const (.int .i64 0)),none⟩] [0, 6]) (.cnd (.tmp 6) (.seq (.reg [⟨some 2, .mv (.const (.int .i64 0)),none⟩, ⟨some 3, .mv (.const (.int .i64 1)),none⟩] [2, 3]) .ret) .nop)) (.seq (.seq (.reg [⟨some 7, .mv (.const (.int .i64 0)),none⟩] [0, 7]) (.blk 0 (.lop b211_0))) (.seq (.reg [⟨some 2, .mv (.const (.int .i64 0)),none⟩, ⟨some 3, .mv (.const (.int .i64 2)),none⟩] [2, 3]) .ret))))
noncomputable def fd211 : FD := ⟨1, c211, [.tmp 2, .tmp 3]⟩
noncomputable def b231_0 : C := (.seq (.reg [⟨some 6, .bin .lss (.tmp 5) (.const (.int .i64 8)),none⟩] [0, 3, 5, 6]) (.seq (.cnd (.tmp 6) .nop (.exi 0)) (.seq (.blk 1 (.seq (.reg [⟨some 7, .mv (.tmp 5),none⟩, ⟨some 4, .mv (.tmp 7),none⟩] [0, 3, 4, 5]) (.reg [⟨some 8, .mv (.tmp 4),none⟩, ⟨some 9, .mv (.tmp 0),none⟩, ⟨some 10, .mv (.tmp 4),none⟩, ⟨some 11, .bin .mul (.const (.int .i64 8)) (.tmp 10),none⟩, ⟨some 12, .bin .sub (.const (.int .i64 56)) (.tmp 11),none⟩, ⟨some 13, .bin .shr (.tmp 9) (.tmp 12),none⟩, ⟨some 14, .cvi .u8 (.tmp 13),none⟩, ⟨some 15, .iaa 8 1 (.tmp 3) (.tmp 8),none⟩, ⟨none, .st 1 (.tmp 15) (.tmp 14) [],none⟩] [0, 3, 5]))) (.reg [⟨some 16, .bin .add (.tmp 5) (.const (.int .i64 1)),none⟩, ⟨some 5, .mv (.tmp 16),none⟩] [0, 3, 5]))))
noncomputable def c231 : C := (.seq (.reg [⟨some 2, .mv (.const (.string ⟨#[]⟩)),none⟩] [0]) (.seq (.reg [⟨some 3, .new [(.int .u8 0),(.int .u8 0),(.int .u8 0),(.int .u8 0),(.int .u8 0),(.int .u8 0),(.int .u8 0),(.int .u8 0)],none⟩] [0, 3]) (.seq (.seq (.reg [⟨some 5, .mv (.const (.int .i64 0)),none⟩] [0, 3, 5]) (.blk 0 (.lop b231_0))) (.seq (.reg [⟨some 17, .sla 8 1 (.tmp 3) none none,none⟩, ⟨some 18, .cvs (.tmp 17),none⟩, ⟨some 2, .mv (.tmp 18),none⟩] [2]) .ret))))
noncomputable def fd231 : FD := ⟨1, c231, [.tmp 2]⟩
noncomputable def b235_0 : C := (.seq (.reg [⟨some 15, .bin .lss (.tmp 14) (.tmp 13),none⟩] [0, 2, 12, 13, 14, 15]) (.seq (.cnd (.tmp 15) .nop (.exi 0)) (.seq (.blk 1 (.seq (.reg [⟨some 16, .mv (.tmp 14),none⟩, ⟨some 17, .ia 21 (.tmp 12) (.tmp 14),none⟩, ⟨some 18, .ld (some 21) (.tmp 17) [],none⟩, ⟨some 5, .new [(.int .i64 0),(.int .i64 0),(.int .u64 0),(.int .u64 0),(.int .u64 0),(.int .u64 0),(.int .u64 0),(.int .u64 0),(.int .u64 0),(.int .u64 0),(.int .u64 0),(.int .u64 0),(.int .u64 0),(.int .u64 0),(.int .u64 0),(.int .u64 0),(.int .u64 0),(.int .u64 0),(.int .i64 0),(.slice none 0 0),(.slice none 0 0)],none⟩, ⟨some 4, .mv (.tmp 16),none⟩, ⟨none, .st 21 (.tmp 5) (.tmp 18) [],none⟩] [0, 2, 4, 5, 12, 13, 14]) (.seq (.reg [⟨some 20, .ld (some 21) (.tmp 5) [],none⟩, ⟨some 21, .cal 177 [(.tmp 20)] true [],none⟩, ⟨some 19, .mv (.tmp 21),none⟩, ⟨some 22, .ex (.tmp 19) 0,none⟩, ⟨some 23, .ex (.tmp 19) 1,none⟩, ⟨some 6, .new [(.int .u64 0),(.int .u64 0),(.int .u64 0),(.int .u64 0)],none⟩, ⟨none, .st 4 (.tmp 6) (.tmp 22) [],none⟩, ⟨some 7, .mv (.tmp 23),none⟩] [0, 2, 4, 5, 6, 7, 12, 13, 14]) (.seq (.seq (.reg [⟨some 24, .mv (.tmp 7),none⟩, ⟨some 25, .bin .neq (.tmp 24) (.const (.int .i64 0)),none⟩, ⟨some 26, .mv (.tmp 25),none⟩, ⟨some 27, .mv (.tmp 4),some (26, false)⟩, ⟨some 28, .bin .gtr (.tmp 27) (.const (.int .i64 0)),some (26, false)⟩, ⟨some 29, .mv (.tmp 28),some (26, false)⟩, ⟨some 30, .fa 0 (.tmp 5),some (29, true)⟩, ⟨some 31, .ld none (.tmp 30) [],some (29, true)⟩, ⟨some 32, .mv (.tmp 0),some (29, true)⟩, ⟨some 33, .ia 21 (.tmp 32) (.const (.int .i64 0)),some (29, true)⟩, ⟨some 34, .fa 0 (.tmp 33),some (29, true)⟩, ⟨some 35, .ld none (.tmp 34) [],some (29, true)⟩, ⟨some 36, .bin .neq (.tmp 31) (.tmp 35),some (29, true)⟩, ⟨some 37, .mv (.tmp 36),some (29, true)⟩, ⟨some 38, .fa 1 (.tmp 5),some (37, false)⟩, ⟨some 39, .ld none (.tmp 38) [],some (37, false)⟩, ⟨some 40, .mv (.tmp 0),some (37, false)⟩, ⟨some 41, .mv (.tmp 4),some (37, false)⟩, ⟨some 42, .bin .sub (.tmp 41) (.const (.int .i64 1)),some (37, false)⟩, ⟨some 43, .ia 21 (.tmp 40) (.tmp 42),some (37, false)⟩, ⟨some 44, .fa 1 (.tmp 43),some (37, false)⟩, ⟨some 45, .ld none (.tmp 44) [],some (37, false)⟩, ⟨some 46, .bin .add (.tmp 45) (.const (.int .i64 1)),some (37, false)⟩, ⟨some 47, .bin .neq (.tmp 39) (.tmp 46),some (37, false)⟩, ⟨some 48, .pick (.tmp 37) (.const (.bool true)) (.tmp 47),some (29, true)⟩, ⟨some 49, .pick (.tmp 29) (.tmp 48) (.const (.bool false)),some (26, false)⟩, ⟨some 50, .pick (.tmp 26) (.const (.bool true)) (.tmp 49),none⟩] [0, 2, 6, 12, 13, 14, 50]) (.cnd (.tmp 50) (.seq (.reg [⟨some 51, .bld [(.int .u64 0),(.int .u64 0),(.int .u64 0),(.int .u64 0)] [],none⟩, ⟨none, .st 4 (.tmp 2) (.tmp 51) [],none⟩, ⟨some 3, .mv (.const (.bool false)),none⟩] [2, 3]) .ret) .nop)) (.seq (.reg [⟨some 53, .ld (some 4) (.tmp 2) [],none⟩, ⟨some 54, .ld (some 4) (.tmp 6) [],none⟩, ⟨some 55, .cal 178 [(.tmp 53),(.tmp 54)] true [],none⟩, ⟨some 52, .mv (.tmp 55),none⟩, ⟨some 56, .ex (.tmp 52) 0,none⟩, ⟨some 57, .ex (.tmp 52) 1,none⟩, ⟨none, .st 4 (.tmp 2) (.tmp 56) [],none⟩, ⟨some 7, .mv (.tmp 57),none⟩] [0, 2, 7, 12, 13, 14]) (.seq (.reg [⟨some 58, .mv (.tmp 7),none⟩, ⟨some 59, .bin .neq (.tmp 58) (.const (.int .i64 0)),none⟩] [0, 2, 12, 13, 14, 59]) (.cnd (.tmp 59) (.seq (.reg [⟨some 60, .bld [(.int .u64 0),(.int .u64 0),(.int .u64 0),(.int .u64 0)] [],none⟩, ⟨none, .st 4 (.tmp 2) (.tmp 60) [],none⟩, ⟨some 3, .mv (.const (.bool false)),none⟩] [2, 3]) .ret) .nop))))))) (.reg [⟨some 61, .bin .add (.tmp 14) (.const (.int .i64 1)),none⟩, ⟨some 14, .mv (.tmp 61),none⟩] [0, 2, 12, 13, 14]))))
noncomputable def c235 : C := (.seq (.reg [⟨some 2, .new [(.int .u64 0),(.int .u64 0),(.int .u64 0),(.int .u64 0)],none⟩, ⟨some 3, .mv (.const (.bool false)),none⟩] [0, 2]) (.seq (.seq (.reg [⟨some 8, .mv (.tmp 0),none⟩, ⟨some 9, .len (.tmp 8),none⟩, ⟨some 10, .bin .gtr (.tmp 9) (.const (.int .i64 6)),none⟩] [0, 2, 10]) (.cnd (.tmp 10) (.seq (.reg [⟨some 11, .ld (some 4) (.tmp 2) [],none⟩, ⟨none, .st 4 (.tmp 2) (.tmp 11) [],none⟩, ⟨some 3, .mv (.const (.bool false)),none⟩] [2, 3]) .ret) .nop)) (.seq (.seq (.reg [⟨some 12, .mv (.tmp 0),none⟩, ⟨some 13, .len (.tmp 12),none⟩, ⟨some 14, .mv (.const (.int .i64 0)),none⟩] [0, 2, 12, 13, 14]) (.blk 0 (.lop b235_0))) (.seq (.reg [⟨some 62, .ld (some 4) (.tmp 2) [],none⟩, ⟨none, .st 4 (.tmp 2) (.tmp 62) [],none⟩, ⟨some 3, .mv (.const (.bool true)),none⟩] [2, 3]) .ret))))
noncomputable def fd235 : FD := ⟨1, c235, [.cell 2 (some 4),.tmp 3]⟩
noncomputable def c241 : C := (.seq (.reg [⟨some 2, .mv (.const (.int .u64 0)),none⟩, ⟨some 3, .mv (.const (.int .i64 0)),none⟩] [0]) (.seq (.seq (.reg [⟨some 4, .mv (.tmp 0),none⟩, ⟨some 5, .lens (.tmp 4),none⟩, ⟨some 6, .bin .gtr (.tmp 5) (.const (.int .i64 64)),none⟩] [0, 6]) (.cnd (.tmp 6) (.seq (.reg [⟨some 2, .mv (.const (.int .u64 0)),none⟩, ⟨some 3, .mv (.const (.int .i64 2)),none⟩] [2, 3]) .ret) .nop)) (.seq (.reg [⟨some 7, .mv (.tmp 0),none⟩, ⟨some 8, .bin .add (.const (.string ⟨#[98, 108, 111, 98]⟩)) (.tmp 7),none⟩, ⟨some 9, .cal 170 [(.tmp 8)] true [],none⟩, ⟨some 2, .mv (.tmp 9),none⟩, ⟨some 3, .mv (.const (.int .i64 0)),none⟩] [2, 3]) .ret)))
noncomputable def fd241 : FD := ⟨1, c241, [.tmp 2, .tmp 3]⟩
noncomputable def b245_0 : C := (.blk 1 (.seq (.reg [⟨some 19, .mv (.tmp 2),none⟩, ⟨some 20, .mv (.tmp 1),none⟩, ⟨some 21, .bin .sub (.tmp 19) (.tmp 20),none⟩, ⟨some 10, .mv (.tmp 21),none⟩] [0, 1, 2, 3, 8, 9, 10]) (.seq (.seq (.reg [⟨some 22, .mv (.tmp 10),none⟩, ⟨some 23, .bin .leq (.tmp 22) (.const (.int .i64 12)),none⟩] [0, 1, 2, 3, 8, 9, 10, 23]) (.cnd (.tmp 23) (.seq (.reg [⟨some 24, .mv (.tmp 0),none⟩, ⟨some 25, .mv (.tmp 1),none⟩, ⟨some 26, .mv (.tmp 2),none⟩, ⟨some 27, .cal 269 [(.tmp 24),(.tmp 25),(.tmp 26)] false [],none⟩] []) .ret) .nop)) (.seq (.seq (.reg [⟨some 28, .mv (.tmp 3),none⟩, ⟨some 29, .bin .eql (.tmp 28) (.const (.int .i64 0)),none⟩] [0, 1, 2, 3, 8, 9, 10, 29]) (.cnd (.tmp 29) (.seq (.reg [⟨some 30, .mv (.tmp 0),none⟩, ⟨some 31, .mv (.tmp 1),none⟩, ⟨some 32, .mv (.tmp 2),none⟩, ⟨some 33, .cal 270 [(.tmp 30),(.tmp 31),(.tmp 32)] false [],none⟩] []) .ret) .nop)) (.seq (.seq (.reg [⟨some 34, .mv (.tmp 8),none⟩, ⟨some 35, .not (.tmp 34),none⟩] [0, 1, 2, 3, 8, 9, 10, 35]) (.cnd (.tmp 35) (.seq (.reg [⟨some 36, .mv (.tmp 0),none⟩, ⟨some 37, .mv (.tmp 1),none⟩, ⟨some 38, .mv (.tmp 2),none⟩, ⟨some 39, .cal 271 [(.tmp 36),(.tmp 37),(.tmp 38)] false [],none⟩] [0, 1, 2, 3, 8, 9, 10]) (.reg [⟨some 40, .mv (.tmp 3),none⟩, ⟨some 41, .bin .sub (.tmp 40) (.const (.int .i64 1)),none⟩, ⟨some 3, .mv (.tmp 41),none⟩] [0, 1, 2, 3, 8, 9, 10])) .nop)) (.seq (.reg [⟨some 43, .mv (.tmp 0),none⟩, ⟨some 44, .mv (.tmp 1),none⟩, ⟨some 45, .mv (.tmp 2),none⟩, ⟨some 46, .cal 272 [(.tmp 43),(.tmp 44),(.tmp 45)] false [],none⟩, ⟨some 42, .mv (.tmp 46),none⟩, ⟨some 47, .ex (.tmp 42) 0,none⟩, ⟨some 48, .ex (.tmp 42) 1,none⟩, ⟨some 11, .mv (.tmp 47),none⟩, ⟨some 12, .mv (.tmp 48),none⟩] [0, 1, 2, 3, 8, 9, 10, 11, 12]) (.seq (.seq (.reg [⟨some 49, .mv (.tmp 12),none⟩, ⟨some 50, .bin .eql (.tmp 49) (.const (.int .i64 2)),none⟩] [0, 1, 2, 3, 8, 9, 10, 11, 12, 50]) (.cnd (.tmp 50) (.seq (.reg [⟨some 51, .mv (.tmp 0),none⟩, ⟨some 52, .mv (.tmp 1),none⟩, ⟨some 53, .mv (.tmp 2),none⟩, ⟨some 54, .cal 273 [(.tmp 51),(.tmp 52),(.tmp 53)] false [],none⟩] [0, 1, 2, 3, 8, 9, 10, 11]) (.seq (.reg [⟨some 55, .mv (.tmp 2),none⟩, ⟨some 56, .bin .sub (.tmp 55) (.const (.int .i64 1)),none⟩, ⟨some 57, .mv (.tmp 11),none⟩, ⟨some 58, .mv (.tmp 1),none⟩, ⟨some 59, .bin .sub (.tmp 57) (.tmp 58),none⟩, ⟨some 60, .bin .sub (.tmp 56) (.tmp 59),none⟩, ⟨some 11, .mv (.tmp 60),none⟩] [0, 1, 2, 3, 8, 9, 10, 11]) (.reg [⟨some 12, .mv (.const (.int .i64 1)),none⟩] [0, 1, 2, 3, 8, 9, 10, 11, 12]))) .nop)) (.seq (.seq (.reg [⟨some 61, .mv (.tmp 8),none⟩, ⟨some 62, .mv (.tmp 61),none⟩, ⟨some 63, .mv (.tmp 9),some (62, true)⟩, ⟨some 64, .pick (.tmp 62) (.tmp 63) (.const (.bool false)),none⟩, ⟨some 65, .mv (.tmp 64),none⟩, ⟨some 66, .mv (.tmp 12),some (65, true)⟩, ⟨some 67, .bin .eql (.tmp 66) (.const (.int .i64 1)),some (65, true)⟩, ⟨some 68, .pick (.tmp 65) (.tmp 67) (.const (.bool false)),none⟩] [0, 1, 2, 3, 8, 9, 10, 11, 68]) (.cnd (.tmp 68) (.seq (.reg [⟨some 69, .mv (.tmp 0),none⟩, ⟨some 70, .mv (.tmp 1),none⟩, ⟨some 71, .mv (.tmp 2),none⟩, ⟨some 72, .cal 274 [(.tmp 69),(.tmp 70),(.tmp 71)] false [],none⟩] [0, 1, 2, 3, 8, 9, 10, 11, 72]) (.cnd (.tmp 72) .ret .nop)) .nop)) (.seq (.seq (.reg [⟨some 73, .mv (.tmp 1),none⟩, ⟨some 74, .bin .gtr (.tmp 73) (.const (.int .i64 0)),none⟩, ⟨some 75, .mv (.tmp 74),none⟩, ⟨some 76, .mv (.tmp 0),some (75, true)⟩, ⟨some 77, .mv (.tmp 1),some (75, true)⟩, ⟨some 78, .bin .sub (.tmp 77) (.const (.int .i64 1)),some (75, true)⟩, ⟨some 79, .ia 1 (.tmp 76) (.tmp 78),some (75, true)⟩, ⟨some 80, .ld none (.tmp 79) [],some (75, true)⟩, ⟨some 81, .mv (.tmp 0),some (75, true)⟩, ⟨some 82, .mv (.tmp 11),some (75, true)⟩, ⟨some 83, .ia 1 (.tmp 81) (.tmp 82),some (75, true)⟩, ⟨some 84, .ld none (.tmp 83) [],some (75, true)⟩, ⟨some 85, .cal 275 [(.tmp 80),(.tmp 84)] true [],some (75, true)⟩, ⟨some 86, .not (.tmp 85),some (75, true)⟩, ⟨some 87, .pick (.tmp 75) (.tmp 86) (.const (.bool false)),none⟩] [0, 1, 2, 3, 8, 9, 10, 11, 87]) (.cnd (.tmp 87) (.seq (.reg [⟨some 88, .mv (.tmp 0),none⟩, ⟨some 89, .mv (.tmp 1),none⟩, ⟨some 90, .mv (.tmp 2),none⟩, ⟨some 91, .mv (.tmp 11),none⟩, ⟨some 92, .cal 276 [(.tmp 88),(.tmp 89),(.tmp 90),(.tmp 91)] false [],none⟩, ⟨some 13, .mv (.tmp 92),none⟩] [0, 2, 3, 8, 9, 13]) (.seq (.reg [⟨some 93, .mv (.tmp 13),none⟩, ⟨some 1, .mv (.tmp 93),none⟩] [0, 1, 2, 3, 8, 9]) (.exi 1))) .nop)) (.seq (.reg [⟨some 95, .mv (.tmp 0),none⟩, ⟨some 96, .mv (.tmp 1),none⟩, ⟨some 97, .mv (.tmp 2),none⟩, ⟨some 98, .mv (.tmp 11),none⟩, ⟨some 99, .cal 277 [(.tmp 95),(.tmp 96),(.tmp 97),(.tmp 98)] false [],none⟩, ⟨some 94, .mv (.tmp 99),none⟩, ⟨some 100, .ex (.tmp 94) 0,none⟩, ⟨some 101, .ex (.tmp 94) 1,none⟩, ⟨some 14, .mv (.tmp 100),none⟩, ⟨some 15, .mv (.tmp 101),none⟩] [0, 1, 2, 3, 10, 14, 15]) (.seq (.reg [⟨some 102, .mv (.tmp 15),none⟩, ⟨some 9, .mv (.tmp 102),none⟩] [0, 1, 2, 3, 9, 10, 14]) (.seq (.reg [⟨some 103, .mv (.tmp 14),none⟩, ⟨some 104, .mv (.tmp 1),none⟩, ⟨some 105, .bin .sub (.tmp 103) (.tmp 104),none⟩, ⟨some 106, .mv (.tmp 2),none⟩, ⟨some 107, .mv (.tmp 14),none⟩, ⟨some 108, .bin .sub (.tmp 106) (.tmp 107),none⟩, ⟨some 16, .mv (.tmp 105),none⟩, ⟨some 17, .mv (.tmp 108),none⟩] [0, 1, 2, 3, 9, 10, 14, 16, 17]) (.seq (.reg [⟨some 109, .mv (.tmp 10),none⟩, ⟨some 110, .bin .quo (.tmp 109) (.const (.int .i64 8)),none⟩, ⟨some 18, .mv (.tmp 110),none⟩] [0, 1, 2, 3, 9, 14, 16, 17, 18]) (.seq (.reg [⟨some 111, .mv (.tmp 16),none⟩, ⟨some 112, .mv (.tmp 17),none⟩, ⟨some 113, .bin .lss (.tmp 111) (.tmp 112),none⟩] [0, 1, 2, 3, 9, 14, 16, 17, 18, 113]) (.cnd (.tmp 113) (.seq (.reg [⟨some 114, .mv (.tmp 16),none⟩, ⟨some 115, .mv (.tmp 18),none⟩, ⟨some 116, .bin .geq (.tmp 114) (.tmp 115),none⟩, ⟨some 8, .mv (.tmp 116),none⟩] [0, 1, 2, 3, 8, 9, 14]) (.seq (.reg [⟨some 117, .mv (.tmp 0),none⟩, ⟨some 118, .mv (.tmp 1),none⟩, ⟨some 119, .mv (.tmp 14),none⟩, ⟨some 120, .mv (.tmp 3),none⟩, ⟨some 121, .cal 245 [(.tmp 117),(.tmp 118),(.tmp 119),(.tmp 120)] false [],none⟩] [0, 2, 3, 8, 9, 14]) (.reg [⟨some 122, .mv (.tmp 14),none⟩, ⟨some 123, .bin .add (.tmp 122) (.const (.int .i64 1)),none⟩, ⟨some 1, .mv (.tmp 123),none⟩] [0, 1, 2, 3, 8, 9]))) (.seq (.reg [⟨some 124, .mv (.tmp 17),none⟩, ⟨some 125, .mv (.tmp 18),none⟩, ⟨some 126, .bin .geq (.tmp 124) (.tmp 125),none⟩, ⟨some 8, .mv (.tmp 126),none⟩] [0, 1, 2, 3, 8, 9, 14]) (.seq (.reg [⟨some 127, .mv (.tmp 0),none⟩, ⟨some 128, .mv (.tmp 14),none⟩, ⟨some 129, .bin .add (.tmp 128) (.const (.int .i64 1)),none⟩, ⟨some 130, .mv (.tmp 2),none⟩, ⟨some 131, .mv (.tmp 3),none⟩, ⟨some 132, .cal 245 [(.tmp 127),(.tmp 129),(.tmp 130),(.tmp 131)] false [],none⟩] [0, 1, 3, 8, 9, 14]) (.reg [⟨some 133, .mv (.tmp 14),none⟩, ⟨some 2, .mv (.tmp 133),none⟩] [0, 1, 2, 3, 8, 9]))))))))))))))))))
noncomputable def c245 : C := (.seq (.reg [⟨some 8, .mv (.const (.bool true)),none⟩] [0, 1, 2, 3, 8]) (.seq (.reg [⟨some 9, .mv (.const (.bool true)),none⟩] [0, 1, 2, 3, 8, 9]) (.blk 0 (.lop b245_0))))
noncomputable def fd245 : FD := ⟨4, c245, []⟩
noncomputable def c265 : C := (.seq (.reg [⟨some 1, .box (.tmp 0),none⟩, ⟨some 2, .mv (.const (.int .i64 0)),none⟩] [1]) (.seq (.seq (.reg [⟨some 6, .ld (some 3) (.tmp 1) [],none⟩, ⟨some 7, .cal 288 [(.tmp 6),(.const (.int .i64 0))] true [],none⟩, ⟨some 5, .mv (.tmp 7),none⟩, ⟨some 8, .ex (.tmp 5) 0,none⟩, ⟨some 9, .ex (.tmp 5) 1,none⟩, ⟨some 3, .mv (.tmp 8),none⟩, ⟨some 4, .mv (.tmp 9),none⟩] [4]) (.seq (.reg [⟨some 10, .mv (.tmp 4),none⟩, ⟨some 11, .not (.tmp 10),none⟩] [11]) (.cnd (.tmp 11) (.seq (.reg [⟨some 2, .mv (.const (.int .i64 1)),none⟩] [2]) .ret) .nop))) (.seq (.reg [⟨some 2, .mv (.const (.int .i64 0)),none⟩] [2]) .ret)))
noncomputable def fd265 : FD := ⟨1, c265, [.tmp 2]⟩
noncomputable def b269_0 : C := (.seq (.seq (.reg [⟨some 16, .mv (.tmp 7),none⟩, ⟨some 17, .mv (.tmp 1),none⟩, ⟨some 18, .bin .gtr (.tmp 16) (.tmp 17),none⟩, ⟨some 19, .mv (.tmp 18),none⟩, ⟨some 20, .mv (.tmp 0),some (19, true)⟩, ⟨some 21, .mv (.tmp 7),some (19, true)⟩, ⟨some 22, .ia 1 (.tmp 20) (.tmp 21),some (19, true)⟩, ⟨some 23, .ld none (.tmp 22) [],some (19, true)⟩, ⟨some 24, .mv (.tmp 0),some (19, true)⟩, ⟨some 25, .mv (.tmp 7),some (19, true)⟩, ⟨some 26, .bin .sub (.tmp 25) (.const (.int .i64 1)),some (19, true)⟩, ⟨some 27, .ia 1 (.tmp 24) (.tmp 26),some (19, true)⟩, ⟨some 28, .ld none (.tmp 27) [],some (19, true)⟩, ⟨some 29, .cal 275 [(.tmp 23),(.tmp 28)] true [],some (19, true)⟩, ⟨some 30, .pick (.tmp 19) (.tmp 29) (.const (.bool false)),none⟩] [0, 1, 2, 6, 7, 30]) (.cnd (.tmp 30) .nop (.exi 2))) (.seq (.blk 3 (.reg [⟨some 33, .mv (.tmp 0),none⟩, ⟨some 34, .mv (.tmp 7),none⟩, ⟨some 35, .mv (.tmp 0),none⟩, ⟨some 36, .mv (.tmp 7),none⟩, ⟨some 37, .bin .sub (.tmp 36) (.const (.int .i64 1)),none⟩, ⟨some 38, .mv (.tmp 0),none⟩, ⟨some 39, .mv (.tmp 7),none⟩, ⟨some 40, .bin .sub (.tmp 39) (.const (.int .i64 1)),none⟩, ⟨some 41, .ia 1 (.tmp 38) (.tmp 40),none⟩, ⟨some 42, .ld none (.tmp 41) [],none⟩, ⟨some 43, .mv (.tmp 0),none⟩, ⟨some 44, .mv (.tmp 7),none⟩, ⟨some 45, .ia 1 (.tmp 43) (.tmp 44),none⟩, ⟨some 46, .ld none (.tmp 45) [],none⟩, ⟨some 47, .ia 1 (.tmp 33) (.tmp 34),none⟩, ⟨none, .st 1 (.tmp 47) (.tmp 42) [],none⟩, ⟨some 48, .ia 1 (.tmp 35) (.tmp 37),none⟩, ⟨none, .st 1 (.tmp 48) (.tmp 46) [],none⟩] [0, 1, 2, 6, 7])) (.reg [⟨some 31, .mv (.tmp 7),none⟩, ⟨some 32, .bin .sub (.tmp 31) (.const (.int .i64 1)),none⟩, ⟨some 7, .mv (.tmp 32),none⟩] [0, 1, 2, 6, 7])))
noncomputable def b269_1 : C := (.seq (.seq (.reg [⟨some 10, .mv (.tmp 6),none⟩, ⟨some 11, .mv (.tmp 2),none⟩, ⟨some 12, .bin .lss (.tmp 10) (.tmp 11),none⟩] [0, 1, 2, 6, 12]) (.cnd (.tmp 12) .nop (.exi 0))) (.seq (.blk 1 (.seq (.reg [⟨some 15, .mv (.tmp 6),none⟩, ⟨some 7, .mv (.tmp 15),none⟩] [0, 1, 2, 6, 7]) (.blk 2 (.lop b269_0)))) (.reg [⟨some 13, .mv (.tmp 6),none⟩, ⟨some 14, .bin .add (.tmp 13) (.const (.int .i64 1)),none⟩, ⟨some 6, .mv (.tmp 14),none⟩] [0, 1, 2, 6])))
noncomputable def c269 : C := (.seq (.reg [⟨some 8, .mv (.tmp 1),none⟩, ⟨some 9, .bin .add (.tmp 8) (.const (.int .i64 1)),none⟩, ⟨some 6, .mv (.tmp 9),none⟩] [0, 1, 2, 6]) (.blk 0 (.lop b269_1)))
noncomputable def fd269 : FD := ⟨3, c269, []⟩
noncomputable def b273_0 : C := (.seq (.seq (.reg [⟨some 11, .mv (.tmp 6),none⟩, ⟨some 12, .mv (.tmp 7),none⟩, ⟨some 13, .bin .lss (.tmp 11) (.tmp 12),none⟩] [0, 6, 7, 13]) (.cnd (.tmp 13) .nop (.exi 0))) (.blk 1 (.seq (.reg [⟨some 14, .mv (.tmp 0),none⟩, ⟨some 15, .mv (.tmp 6),none⟩, ⟨some 16, .mv (.tmp 0),none⟩, ⟨some 17, .mv (.tmp 7),none⟩, ⟨some 18, .mv (.tmp 0),none⟩, ⟨some 19, .mv (.tmp 7),none⟩, ⟨some 20, .ia 1 (.tmp 18) (.tmp 19),none⟩, ⟨some 21, .ld none (.tmp 20) [],none⟩, ⟨some 22, .mv (.tmp 0),none⟩, ⟨some 23, .mv (.tmp 6),none⟩, ⟨some 24, .ia 1 (.tmp 22) (.tmp 23),none⟩, ⟨some 25, .ld none (.tmp 24) [],none⟩, ⟨some 26, .ia 1 (.tmp 14) (.tmp 15),none⟩, ⟨none, .st 1 (.tmp 26) (.tmp 21) [],none⟩, ⟨some 27, .ia 1 (.tmp 16) (.tmp 17),none⟩, ⟨none, .st 1 (.tmp 27) (.tmp 25) [],none⟩] [0, 6, 7]) (.seq (.reg [⟨some 28, .mv (.tmp 6),none⟩, ⟨some 29, .bin .add (.tmp 28) (.const (.int .i64 1)),none⟩, ⟨some 6, .mv (.tmp 29),none⟩] [0, 6, 7]) (.reg [⟨some 30, .mv (.tmp 7),none⟩, ⟨some 31, .bin .sub (.tmp 30) (.const (.int .i64 1)),none⟩, ⟨some 7, .mv (.tmp 31),none⟩] [0, 6, 7])))))
noncomputable def c273 : C := (.seq (.reg [⟨some 8, .mv (.tmp 1),none⟩, ⟨some 6, .mv (.tmp 8),none⟩] [0, 2, 6]) (.seq (.reg [⟨some 9, .mv (.tmp 2),none⟩, ⟨some 10, .bin .sub (.tmp 9) (.const (.int .i64 1)),none⟩, ⟨some 7, .mv (.tmp 10),none⟩] [0, 6, 7]) (.blk 0 (.lop b273_0))))
noncomputable def fd273 : FD := ⟨3, c273, []⟩
noncomputable def b277_0 : C := (.seq (.seq (.reg [⟨some 30, .mv (.tmp 10),none⟩, ⟨some 31, .mv (.tmp 11),none⟩, ⟨some 32, .bin .leq (.tmp 30) (.tmp 31),none⟩, ⟨some 33, .mv (.tmp 32),none⟩, ⟨some 34, .mv (.tmp 0),some (33, true)⟩, ⟨some 35, .mv (.tmp 10),some (33, true)⟩, ⟨some 36, .ia 1 (.tmp 34) (.tmp 35),some (33, true)⟩, ⟨some 37, .ld none (.tmp 36) [],some (33, true)⟩, ⟨some 38, .mv (.tmp 0),some (33, true)⟩, ⟨some 39, .mv (.tmp 1),some (33, true)⟩, ⟨some 40, .ia 1 (.tmp 38) (.tmp 39),some (33, true)⟩, ⟨some 41, .ld none (.tmp 40) [],some (33, true)⟩, ⟨some 42, .cal 275 [(.tmp 37),(.tmp 41)] true [],some (33, true)⟩, ⟨some 43, .pick (.tmp 33) (.tmp 42) (.const (.bool false)),none⟩] [0, 1, 10, 11, 43]) (.cnd (.tmp 43) .nop (.exi 0))) (.blk 1 (.reg [⟨some 44, .mv (.tmp 10),none⟩, ⟨some 45, .bin .add (.tmp 44) (.const (.int .i64 1)),none⟩, ⟨some 10, .mv (.tmp 45),none⟩] [0, 1, 10, 11])))
noncomputable def b277_1 : C := (.seq (.seq (.reg [⟨some 46, .mv (.tmp 10),none⟩, ⟨some 47, .mv (.tmp 11),none⟩, ⟨some 48, .bin .leq (.tmp 46) (.tmp 47),none⟩, ⟨some 49, .mv (.tmp 48),none⟩, ⟨some 50, .mv (.tmp 0),some (49, true)⟩, ⟨some 51, .mv (.tmp 11),some (49, true)⟩, ⟨some 52, .ia 1 (.tmp 50) (.tmp 51),some (49, true)⟩, ⟨some 53, .ld none (.tmp 52) [],some (49, true)⟩, ⟨some 54, .mv (.tmp 0),some (49, true)⟩, ⟨some 55, .mv (.tmp 1),some (49, true)⟩, ⟨some 56, .ia 1 (.tmp 54) (.tmp 55),some (49, true)⟩, ⟨some 57, .ld none (.tmp 56) [],some (49, true)⟩, ⟨some 58, .cal 275 [(.tmp 53),(.tmp 57)] true [],some (49, true)⟩, ⟨some 59, .not (.tmp 58),some (49, true)⟩, ⟨some 60, .pick (.tmp 49) (.tmp 59) (.const (.bool false)),none⟩] [0, 1, 10, 11, 60]) (.cnd (.tmp 60) .nop (.exi 2))) (.blk 3 (.reg [⟨some 61, .mv (.tmp 11),none⟩, ⟨some 62, .bin .sub (.tmp 61) (.const (.int .i64 1)),none⟩, ⟨some 11, .mv (.tmp 62),none⟩] [0, 1, 10, 11])))
noncomputable def b277_2 : C := (.seq (.seq (.reg [⟨some 99, .mv (.tmp 10),none⟩, ⟨some 100, .mv (.tmp 11),none⟩, ⟨some 101, .bin .leq (.tmp 99) (.tmp 100),none⟩, ⟨some 102, .mv (.tmp 101),none⟩, ⟨some 103, .mv (.tmp 0),some (102, true)⟩, ⟨some 104, .mv (.tmp 10),some (102, true)⟩, ⟨some 105, .ia 1 (.tmp 103) (.tmp 104),some (102, true)⟩, ⟨some 106, .ld none (.tmp 105) [],some (102, true)⟩, ⟨some 107, .mv (.tmp 0),some (102, true)⟩, ⟨some 108, .mv (.tmp 1),some (102, true)⟩, ⟨some 109, .ia 1 (.tmp 107) (.tmp 108),some (102, true)⟩, ⟨some 110, .ld none (.tmp 109) [],some (102, true)⟩, ⟨some 111, .cal 275 [(.tmp 106),(.tmp 110)] true [],some (102, true)⟩, ⟨some 112, .pick (.tmp 102) (.tmp 111) (.const (.bool false)),none⟩] [0, 1, 10, 11, 112]) (.cnd (.tmp 112) .nop (.exi 6))) (.blk 7 (.reg [⟨some 113, .mv (.tmp 10),none⟩, ⟨some 114, .bin .add (.tmp 113) (.const (.int .i64 1)),none⟩, ⟨some 10, .mv (.tmp 114),none⟩] [0, 1, 10, 11])))
noncomputable def b277_3 : C := (.seq (.seq (.reg [⟨some 115, .mv (.tmp 10),none⟩, ⟨some 116, .mv (.tmp 11),none⟩, ⟨some 117, .bin .leq (.tmp 115) (.tmp 116),none⟩, ⟨some 118, .mv (.tmp 117),none⟩, ⟨some 119, .mv (.tmp 0),some (118, true)⟩, ⟨some 120, .mv (.tmp 11),some (118, true)⟩, ⟨some 121, .ia 1 (.tmp 119) (.tmp 120),some (118, true)⟩, ⟨some 122, .ld none (.tmp 121) [],some (118, true)⟩, ⟨some 123, .mv (.tmp 0),some (118, true)⟩, ⟨some 124, .mv (.tmp 1),some (118, true)⟩, ⟨some 125, .ia 1 (.tmp 123) (.tmp 124),some (118, true)⟩, ⟨some 126, .ld none (.tmp 125) [],some (118, true)⟩, ⟨some 127, .cal 275 [(.tmp 122),(.tmp 126)] true [],some (118, true)⟩, ⟨some 128, .not (.tmp 127),some (118, true)⟩, ⟨some 129, .pick (.tmp 118) (.tmp 128) (.const (.bool false)),none⟩] [0, 1, 10, 11, 129]) (.cnd (.tmp 129) .nop (.exi 8))) (.blk 9 (.reg [⟨some 130, .mv (.tmp 11),none⟩, ⟨some 131, .bin .sub (.tmp 130) (.const (.int .i64 1)),none⟩, ⟨some 11, .mv (.tmp 131),none⟩] [0, 1, 10, 11])))
noncomputable def b277_4 : C := (.blk 5 (.seq (.blk 6 (.lop b277_2)) (.seq (.blk 8 (.lop b277_3)) (.seq (.seq (.reg [⟨some 132, .mv (.tmp 10),none⟩, ⟨some 133, .mv (.tmp 11),none⟩, ⟨some 134, .bin .gtr (.tmp 132) (.tmp 133),none⟩] [0, 1, 10, 11, 134]) (.cnd (.tmp 134) (.exi 4) .nop)) (.seq (.reg [⟨some 135, .mv (.tmp 0),none⟩, ⟨some 136, .mv (.tmp 10),none⟩, ⟨some 137, .mv (.tmp 0),none⟩, ⟨some 138, .mv (.tmp 11),none⟩, ⟨some 139, .mv (.tmp 0),none⟩, ⟨some 140, .mv (.tmp 11),none⟩, ⟨some 141, .ia 1 (.tmp 139) (.tmp 140),none⟩, ⟨some 142, .ld none (.tmp 141) [],none⟩, ⟨some 143, .mv (.tmp 0),none⟩, ⟨some 144, .mv (.tmp 10),none⟩, ⟨some 145, .ia 1 (.tmp 143) (.tmp 144),none⟩, ⟨some 146, .ld none (.tmp 145) [],none⟩, ⟨some 147, .ia 1 (.tmp 135) (.tmp 136),none⟩, ⟨none, .st 1 (.tmp 147) (.tmp 142) [],none⟩, ⟨some 148, .ia 1 (.tmp 137) (.tmp 138),none⟩, ⟨none, .st 1 (.tmp 148) (.tmp 146) [],none⟩] [0, 1, 10, 11]) (.seq (.reg [⟨some 149, .mv (.tmp 10),none⟩, ⟨some 150, .bin .add (.tmp 149) (.const (.int .i64 1)),none⟩, ⟨some 10, .mv (.tmp 150),none⟩] [0, 1, 10, 11]) (.reg [⟨some 151, .mv (.tmp 11),none⟩, ⟨some 152, .bin .sub (.tmp 151) (.const (.int .i64 1)),none⟩, ⟨some 11, .mv (.tmp 152),none⟩] [0, 1, 10, 11])))))))
noncomputable def c277 : C := (.seq (.reg [⟨some 8, .mv (.const (.int .i64 0)),none⟩, ⟨some 9, .mv (.const (.bool false)),none⟩] [0, 1, 2, 3]) (.seq (.reg [⟨some 12, .mv (.tmp 0),none⟩, ⟨some 13, .mv (.tmp 1),none⟩, ⟨some 14, .mv (.tmp 0),none⟩, ⟨some 15, .mv (.tmp 3),none⟩, ⟨some 16, .mv (.tmp 0),none⟩, ⟨some 17, .mv (.tmp 3),none⟩, ⟨some 18, .ia 1 (.tmp 16) (.tmp 17),none⟩, ⟨some 19, .ld none (.tmp 18) [],none⟩, ⟨some 20, .mv (.tmp 0),none⟩, ⟨some 21, .mv (.tmp 1),none⟩, ⟨some 22, .ia 1 (.tmp 20) (.tmp 21),none⟩, ⟨some 23, .ld none (.tmp 22) [],none⟩, ⟨some 24, .ia 1 (.tmp 12) (.tmp 13),none⟩, ⟨none, .st 1 (.tmp 24) (.tmp 19) [],none⟩, ⟨some 25, .ia 1 (.tmp 14) (.tmp 15),none⟩, ⟨none, .st 1 (.tmp 25) (.tmp 23) [],none⟩] [0, 1, 2]) (.seq (.reg [⟨some 26, .mv (.tmp 1),none⟩, ⟨some 27, .bin .add (.tmp 26) (.const (.int .i64 1)),none⟩, ⟨some 28, .mv (.tmp 2),none⟩, ⟨some 29, .bin .sub (.tmp 28) (.const (.int .i64 1)),none⟩, ⟨some 10, .mv (.tmp 27),none⟩, ⟨some 11, .mv (.tmp 29),none⟩] [0, 1, 10, 11]) (.seq (.blk 0 (.lop b277_0)) (.seq (.blk 2 (.lop b277_1)) (.seq (.seq (.reg [⟨some 63, .mv (.tmp 10),none⟩, ⟨some 64, .mv (.tmp 11),none⟩, ⟨some 65, .bin .gtr (.tmp 63) (.tmp 64),none⟩] [0, 1, 10, 11, 65]) (.cnd (.tmp 65) (.seq (.reg [⟨some 66, .mv (.tmp 0),none⟩, ⟨some 67, .mv (.tmp 11),none⟩, ⟨some 68, .mv (.tmp 0),none⟩, ⟨some 69, .mv (.tmp 1),none⟩, ⟨some 70, .mv (.tmp 0),none⟩, ⟨some 71, .mv (.tmp 1),none⟩, ⟨some 72, .ia 1 (.tmp 70) (.tmp 71),none⟩, ⟨some 73, .ld none (.tmp 72) [],none⟩, ⟨some 74, .mv (.tmp 0),none⟩, ⟨some 75, .mv (.tmp 11),none⟩, ⟨some 76, .ia 1 (.tmp 74) (.tmp 75),none⟩, ⟨some 77, .ld none (.tmp 76) [],none⟩, ⟨some 78, .ia 1 (.tmp 66) (.tmp 67),none⟩, ⟨none, .st 1 (.tmp 78) (.tmp 73) [],none⟩, ⟨some 79, .ia 1 (.tmp 68) (.tmp 69),none⟩, ⟨none, .st 1 (.tmp 79) (.tmp 77) [],none⟩] [11]) (.seq (.reg [⟨some 80, .mv (.tmp 11),none⟩, ⟨some 8, .mv (.tmp 80),none⟩, ⟨some 9, .mv (.const (.bool true)),none⟩] [8, 9]) .ret)) .nop)) (.seq (.reg [⟨some 81, .mv (.tmp 0),none⟩, ⟨some 82, .mv (.tmp 10),none⟩, ⟨some 83, .mv (.tmp 0),none⟩, ⟨some 84, .mv (.tmp 11),none⟩, ⟨some 85, .mv (.tmp 0),none⟩, ⟨some 86, .mv (.tmp 11),none⟩, ⟨some 87, .ia 1 (.tmp 85) (.tmp 86),none⟩, ⟨some 88, .ld none (.tmp 87) [],none⟩, ⟨some 89, .mv (.tmp 0),none⟩, ⟨some 90, .mv (.tmp 10),none⟩, ⟨some 91, .ia 1 (.tmp 89) (.tmp 90),none⟩, ⟨some 92, .ld none (.tmp 91) [],none⟩, ⟨some 93, .ia 1 (.tmp 81) (.tmp 82),none⟩, ⟨none, .st 1 (.tmp 93) (.tmp 88) [],none⟩, ⟨some 94, .ia 1 (.tmp 83) (.tmp 84),none⟩, ⟨none, .st 1 (.tmp 94) (.tmp 92) [],none⟩] [0, 1, 10, 11]) (.seq (.reg [⟨some 95, .mv (.tmp 10),none⟩, ⟨some 96, .bin .add (.tmp 95) (.const (.int .i64 1)),none⟩, ⟨some 10, .mv (.tmp 96),none⟩] [0, 1, 10, 11]) (.seq (.reg [⟨some 97, .mv (.tmp 11),none⟩, ⟨some 98, .bin .sub (.tmp 97) (.const (.int .i64 1)),none⟩, ⟨some 11, .mv (.tmp 98),none⟩] [0, 1, 10, 11]) (.seq (.blk 4 (.lop b277_4)) (.seq (.reg [⟨some 153, .mv (.tmp 0),none⟩, ⟨some 154, .mv (.tmp 11),none⟩, ⟨some 155, .mv (.tmp 0),none⟩, ⟨some 156, .mv (.tmp 1),none⟩, ⟨some 157, .mv (.tmp 0),none⟩, ⟨some 158, .mv (.tmp 1),none⟩, ⟨some 159, .ia 1 (.tmp 157) (.tmp 158),none⟩, ⟨some 160, .ld none (.tmp 159) [],none⟩, ⟨some 161, .mv (.tmp 0),none⟩, ⟨some 162, .mv (.tmp 11),none⟩, ⟨some 163, .ia 1 (.tmp 161) (.tmp 162),none⟩, ⟨some 164, .ld none (.tmp 163) [],none⟩, ⟨some 165, .ia 1 (.tmp 153) (.tmp 154),none⟩, ⟨none, .st 1 (.tmp 165) (.tmp 160) [],none⟩, ⟨some 166, .ia 1 (.tmp 155) (.tmp 156),none⟩, ⟨none, .st 1 (.tmp 166) (.tmp 164) [],none⟩] [11]) (.seq (.reg [⟨some 167, .mv (.tmp 11),none⟩, ⟨some 8, .mv (.tmp 167),none⟩, ⟨some 9, .mv (.const (.bool false)),none⟩] [8, 9]) .ret))))))))))))
noncomputable def fd277 : FD := ⟨4, c277, [.tmp 8, .tmp 9]⟩
noncomputable def b285_0 : C := (.seq (.reg [⟨some 12, .bin .lss (.tmp 11) (.tmp 10),none⟩] [0, 9, 10, 11, 12]) (.seq (.cnd (.tmp 12) .nop (.exi 0)) (.seq (.blk 1 (.seq (.reg [⟨some 13, .ia 3 (.tmp 9) (.tmp 11),none⟩, ⟨some 14, .ld (some 3) (.tmp 13) [],none⟩, ⟨some 4, .new [(.bool false),(.string ⟨#[]⟩),(.slice none 0 0)],none⟩, ⟨none, .st 3 (.tmp 4) (.tmp 14) [],none⟩] [0, 4, 9, 10, 11]) (.seq (.reg [⟨some 15, .mv (.tmp 0),none⟩, ⟨some 16, .ld (some 3) (.tmp 4) [],none⟩, ⟨some 17, .cal 286 [(.tmp 16)] true [],none⟩, ⟨some 18, .clv (.tmp 15) [(.tmp 17)] false [],none⟩, ⟨some 19, .not (.tmp 18),none⟩] [0, 9, 10, 11, 19]) (.cnd (.tmp 19) .ret .nop)))) (.reg [⟨some 20, .bin .add (.tmp 11) (.const (.int .i64 1)),none⟩, ⟨some 11, .mv (.tmp 20),none⟩] [0, 9, 10, 11]))))
noncomputable def c285 : C := (.seq (.seq (.reg [⟨some 5, .fa 0 (.tmp 1),none⟩, ⟨some 6, .ld none (.tmp 5) [],none⟩, ⟨some 7, .not (.tmp 6),none⟩] [0, 1, 7]) (.cnd (.tmp 7) .ret .nop)) (.seq (.reg [⟨some 8, .fa 2 (.tmp 1),none⟩, ⟨some 9, .ld none (.tmp 8) [],none⟩, ⟨some 10, .len (.tmp 9),none⟩, ⟨some 11, .mv (.const (.int .i64 0)),none⟩] [0, 9, 10, 11]) (.blk 0 (.lop b285_0))))
noncomputable def fd285 : FD := ⟨2, c285, []⟩
noncomputable def c289 : C := (.seq (.reg [⟨some 6, .mv (.const (.slice none 0 0)),none⟩] [0, 1, 2]) (.seq (.seq (.reg [⟨some 8, .mv (.tmp 2),none⟩, ⟨some 9, .bin .leq (.tmp 8) (.const (.int .i64 55)),none⟩] [0, 1, 2, 9]) (.cnd (.tmp 9) (.seq (.reg [⟨some 10, .mv (.tmp 0),none⟩, ⟨some 11, .mv (.tmp 1),none⟩, ⟨some 12, .mv (.tmp 2),none⟩, ⟨some 13, .bin .add (.tmp 11) (.tmp 12),none⟩, ⟨some 14, .cvi .u8 (.tmp 13),none⟩, ⟨some 15, .bldS 1 [(.int .u8 0)] 1 [(0, (.tmp 14))],none⟩, ⟨some 16, .app 1 (.tmp 10) (.tmp 15) [],none⟩, ⟨some 6, .mv (.tmp 16),none⟩] [6]) .ret) .nop)) (.seq (.reg [⟨some 17, .mv (.tmp 2),none⟩, ⟨some 18, .cal 303 [(.tmp 17)] true [],none⟩, ⟨some 7, .mv (.tmp 18),none⟩] [0, 1, 7]) (.seq (.reg [⟨some 19, .mv (.tmp 0),none⟩, ⟨some 20, .mv (.tmp 1),none⟩, ⟨some 21, .bin .add (.tmp 20) (.const (.int .i64 55)),none⟩, ⟨some 22, .mv (.tmp 7),none⟩, ⟨some 23, .lens (.tmp 22),none⟩, ⟨some 24, .bin .add (.tmp 21) (.tmp 23),none⟩, ⟨some 25, .cvi .u8 (.tmp 24),none⟩, ⟨some 26, .bldS 1 [(.int .u8 0)] 1 [(0, (.tmp 25))],none⟩, ⟨some 27, .app 1 (.tmp 19) (.tmp 26) [],none⟩, ⟨some 28, .mv (.tmp 7),none⟩, ⟨some 29, .apps (.tmp 27) (.tmp 28),none⟩, ⟨some 6, .mv (.tmp 29),none⟩] [6]) .ret))))
noncomputable def fd289 : FD := ⟨3, c289, [.tmp 6]⟩
noncomputable def c293 : C := (.seq (.reg [⟨some 2, .mv (.const (.int .u64 0)),none⟩] [0]) (.seq (.reg [⟨some 3, .mv (.tmp 0),none⟩, ⟨some 4, .nck (.tmp 3),none⟩, ⟨some 5, .ld none (.tmp 4) [],none⟩, ⟨some 6, .mv (.tmp 0),none⟩, ⟨some 7, .nck (.tmp 6),none⟩, ⟨some 8, .ld none (.tmp 7) [],none⟩, ⟨some 9, .bin .shl (.tmp 8) (.const (.int .u64 13)),none⟩, ⟨some 10, .bin .xor (.tmp 5) (.tmp 9),none⟩, ⟨some 11, .nck (.tmp 3),none⟩, ⟨none, .st 1 (.tmp 11) (.tmp 10) [],none⟩] [0]) (.seq (.reg [⟨some 12, .mv (.tmp 0),none⟩, ⟨some 13, .nck (.tmp 12),none⟩, ⟨some 14, .ld none (.tmp 13) [],none⟩, ⟨some 15, .mv (.tmp 0),none⟩, ⟨some 16, .nck (.tmp 15),none⟩, ⟨some 17, .ld none (.tmp 16) [],none⟩, ⟨some 18, .bin .shr (.tmp 17) (.const (.int .u64 7)),none⟩, ⟨some 19, .bin .xor (.tmp 14) (.tmp 18),none⟩, ⟨some 20, .nck (.tmp 12),none⟩, ⟨none, .st 1 (.tmp 20) (.tmp 19) [],none⟩] [0]) (.seq (.reg [⟨some 21, .mv (.tmp 0),none⟩, ⟨some 22, .nck (.tmp 21),none⟩, ⟨some 23, .ld none (.tmp 22) [],none⟩, ⟨some 24, .mv (.tmp 0),none⟩, ⟨some 25, .nck (.tmp 24),none⟩, ⟨some 26, .ld none (.tmp 25) [],none⟩, ⟨some 27, .bin .shl (.tmp 26) (.const (.int .u64 17)),none⟩, ⟨some 28, .bin .xor (.tmp 23) (.tmp 27),none⟩, ⟨some 29, .nck (.tmp 21),none⟩, ⟨none, .st 1 (.tmp 29) (.tmp 28) [],none⟩] [0]) (.seq (.reg [⟨some 30, .mv (.tmp 0),none⟩, ⟨some 31, .nck (.tmp 30),none⟩, ⟨some 32, .ld none (.tmp 31) [],none⟩, ⟨some 2, .mv (.tmp 32),none⟩] [2]) .ret)))))
noncomputable def fd293 : FD := ⟨1, c293, [.tmp 2]⟩
noncomputable def b301_0 : C := (.seq (.seq (.reg [⟨some 4, .mv (.tmp 3),none⟩, ⟨some 5, .bin .gtr (.tmp 4) (.const (.int .i64 0)),none⟩, ⟨some 6, .mv (.tmp 5),none⟩, ⟨some 7, .mv (.tmp 3),some (6, true)⟩, ⟨some 8, .bin .sub (.tmp 7) (.const (.int .i64 1)),some (6, true)⟩, ⟨some 9, .iaa 4 1 (.tmp 1) (.tmp 8),some (6, true)⟩, ⟨some 10, .ld none (.tmp 9) [],some (6, true)⟩, ⟨some 11, .bin .eql (.tmp 10) (.const (.int .u64 0)),some (6, true)⟩, ⟨some 12, .pick (.tmp 6) (.tmp 11) (.const (.bool false)),none⟩] [1, 3, 12]) (.cnd (.tmp 12) .nop (.exi 0))) (.blk 1 (.reg [⟨some 13, .mv (.tmp 3),none⟩, ⟨some 14, .bin .sub (.tmp 13) (.const (.int .i64 1)),none⟩, ⟨some 3, .mv (.tmp 14),none⟩] [1, 3])))
noncomputable def c301 : C := (.seq (.reg [⟨some 1, .box (.tmp 0),none⟩, ⟨some 2, .mv (.const (.int .i64 0)),none⟩] [1]) (.seq (.reg [⟨some 3, .mv (.const (.int .i64 4)),none⟩] [1, 3]) (.seq (.blk 0 (.lop b301_0)) (.seq (.reg [⟨some 15, .mv (.tmp 3),none⟩, ⟨some 2, .mv (.tmp 15),none⟩] [2]) .ret))))
noncomputable def fd301 : FD := ⟨1, c301, [.tmp 2]⟩
noncomputable def c305 : C := (.seq (.reg [⟨some 2, .new [(.int .u64 0),(.int .u64 0),(.int .u64 0),(.int .u64 0)],none⟩, ⟨some 3, .mv (.const (.int .i64 0)),none⟩] [0, 2]) (.seq (.seq (.reg [⟨some 4, .mv (.tmp 0),none⟩, ⟨some 5, .bin .lss (.tmp 4) (.const (.int .i64 0)),none⟩] [0, 2, 5]) (.cnd (.tmp 5) (.seq (.reg [⟨some 6, .bld [(.int .u64 0),(.int .u64 0),(.int .u64 0),(.int .u64 0)] [],none⟩, ⟨none, .st 4 (.tmp 2) (.tmp 6) [],none⟩, ⟨some 3, .mv (.const (.int .i64 1)),none⟩] [2, 3]) .ret) .nop)) (.seq (.reg [⟨some 7, .mv (.tmp 0),none⟩, ⟨some 8, .cvi .u64 (.tmp 7),none⟩, ⟨some 9, .bld [(.int .u64 0),(.int .u64 0),(.int .u64 0),(.int .u64 0)] [(0, 1, (.tmp 8))],none⟩, ⟨none, .st 4 (.tmp 2) (.tmp 9) [],none⟩, ⟨some 3, .mv (.const (.int .i64 0)),none⟩] [2, 3]) .ret)))
noncomputable def fd305 : FD := ⟨1, c305, [.cell 2 (some 4),.tmp 3]⟩
end Go.Proofs.YtakdnpafdadblaaGreat.EV
namespace Go.Proofs.YtakdnpafdadblaaGreat.EV
open Go
noncomputable def tb : Tb := (.nod 191 (.nod 116 (.nod 63 (.nod 33 (.nod 29 (.nod 27 (.one 3 fd3) (.nod 28 (.one 27 fd27) (.one 28 fd28))) (.nod 31 (.nod 30 (.one 29 fd29) (.one 30 fd30)) (.nod 32 (.one 31 fd31) (.one 32 fd32)))) (.nod 36 (.nod 34 (.one 33 fd33) (.nod 35 (.one 34 fd34) (.one 35 fd35))) (.nod 60 (.nod 58 (.one 36 fd36) (.one 58 fd58)) (.nod 62 (.one 60 fd60) (.one 62 fd62))))) (.nod 95 (.nod 91 (.nod 89 (.one 63 fd63) (.nod 90 (.one 89 fd89) (.one 90 fd90))) (.nod 93 (.nod 92 (.one 91 fd91) (.one 92 fd92)) (.nod 94 (.one 93 fd93) (.one 94 fd94)))) (.nod 98 (.nod 96 (.one 95 fd95) (.nod 97 (.one 96 fd96) (.one 97 fd97))) (.nod 103 (.nod 102 (.one 98 fd98) (.one 102 fd102)) (.nod 114 (.one 103 fd103) (.one 114 fd114)))))) (.nod 158 (.nod 131 (.nod 125 (.nod 122 (.one 116 fd116) (.nod 124 (.one 122 fd122) (.one 124 fd124))) (.nod 127 (.nod 126 (.one 125 fd125) (.one 126 fd126)) (.nod 130 (.one 127 fd127) (.one 130 fd130)))) (.nod 136 (.nod 132 (.one 131 fd131) (.nod 133 (.one 132 fd132) (.one 133 fd133))) (.nod 138 (.nod 137 (.one 136 fd136) (.one 137 fd137)) (.nod 149 (.one 138 fd138) (.one 149 fd149))))) (.nod 175 (.nod 171 (.nod 169 (.one 158 fd158) (.nod 170 (.one 169 fd169) (.one 170 fd170))) (.nod 173 (.nod 172 (.one 171 fd171) (.one 172 fd172)) (.nod 174 (.one 173 fd173) (.one 174 fd174)))) (.nod 178 (.nod 176 (.one 175 fd175) (.nod 177 (.one 176 fd176) (.one 177 fd177))) (.nod 180 (.nod 179 (.one 178 fd178) (.one 179 fd179)) (.nod 190 (.one 180 fd180) (.one 190 fd190))))))) (.nod 267 (.nod 233 (.nod 202 (.nod 198 (.nod 194 (.one 191 fd191) (.nod 195 (.one 194 fd194) (.one 195 fd195))) (.nod 200 (.nod 199 (.one 198 fd198) (.one 199 fd199)) (.nod 201 (.one 200 fd200) (.one 201 fd201)))) (.nod 205 (.nod 203 (.one 202 fd202) (.nod 204 (.one 203 fd203) (.one 204 fd204))) (.nod 231 (.nod 211 (.one 205 fd205) (.one 211 fd211)) (.nod 232 (.one 231 fd231) (.one 232 fd232))))) (.nod 245 (.nod 236 (.nod 234 (.one 233 fd233) (.nod 235 (.one 234 fd234) (.one 235 fd235))) (.nod 242 (.nod 241 (.one 236 fd236) (.one 241 fd241)) (.nod 244 (.one 242 fd242) (.one 244 fd244)))) (.nod 260 (.nod 246 (.one 245 fd245) (.nod 247 (.one 246 fd246) (.one 247 fd247))) (.nod 265 (.nod 264 (.one 260 fd260) (.one 264 fd264)) (.nod 266 (.one 265 fd265) (.one 266 fd266)))))) (.nod 287 (.nod 275 (.nod 271 (.nod 269 (.one 267 fd267) (.nod 270 (.one 269 fd269) (.one 270 fd270))) (.nod 273 (.nod 272 (.one 271 fd271) (.one 272 fd272)) (.nod 274 (.one 273 fd273) (.one 274 fd274)))) (.nod 278 (.nod 276 (.one 275 fd275) (.nod 277 (.one 276 fd276) (.one 277 fd277))) (.nod 285 (.nod 279 (.one 278 fd278) (.one 279 fd279)) (.nod 286 (.one 285 fd285) (.one 286 fd286))))) (.nod 294 (.nod 290 (.nod 288 (.one 287 fd287) (.nod 289 (.one 288 fd288) (.one 289 fd289))) (.nod 292 (.nod 291 (.one 290 fd290) (.one 291 fd291)) (.nod 293 (.one 292 fd292) (.one 293 fd293)))) (.nod 302 (.nod 296 (.nod 295 (.one 294 fd294) (.one 295 fd295)) (.nod 301 (.one 296 fd296) (.one 301 fd301))) (.nod 304 (.nod 303 (.one 302 fd302) (.one 303 fd303)) (.nod 305 (.one 304 fd304) (.one 305 fd305))))))))
theorem t3 : tb.get 3 = some fd3 := by kernel_rfl
theorem t27 : tb.get 27 = some fd27 := by kernel_rfl
theorem t28 : tb.get 28 = some fd28 := by kernel_rfl
theorem t29 : tb.get 29 = some fd29 := by kernel_rfl
theorem t30 : tb.get 30 = some fd30 := by kernel_rfl
theorem t31 : tb.get 31 = some fd31 := by kernel_rfl
theorem t32 : tb.get 32 = some fd32 := by kernel_rfl
theorem t33 : tb.get 33 = some fd33 := by kernel_rfl
theorem t34 : tb.get 34 = some fd34 := by kernel_rfl
theorem t35 : tb.get 35 = some fd35 := by kernel_rfl
theorem t36 : tb.get 36 = some fd36 := by kernel_rfl
theorem t58 : tb.get 58 = some fd58 := by kernel_rfl
theorem t60 : tb.get 60 = some fd60 := by kernel_rfl
theorem t62 : tb.get 62 = some fd62 := by kernel_rfl
theorem t63 : tb.get 63 = some fd63 := by kernel_rfl
theorem t89 : tb.get 89 = some fd89 := by kernel_rfl
theorem t90 : tb.get 90 = some fd90 := by kernel_rfl
theorem t91 : tb.get 91 = some fd91 := by kernel_rfl
theorem t92 : tb.get 92 = some fd92 := by kernel_rfl
theorem t93 : tb.get 93 = some fd93 := by kernel_rfl
theorem t94 : tb.get 94 = some fd94 := by kernel_rfl
theorem t95 : tb.get 95 = some fd95 := by kernel_rfl
theorem t96 : tb.get 96 = some fd96 := by kernel_rfl
theorem t97 : tb.get 97 = some fd97 := by kernel_rfl
theorem t98 : tb.get 98 = some fd98 := by kernel_rfl
theorem t102 : tb.get 102 = some fd102 := by kernel_rfl
theorem t103 : tb.get 103 = some fd103 := by kernel_rfl
theorem t114 : tb.get 114 = some fd114 := by kernel_rfl
theorem t116 : tb.get 116 = some fd116 := by kernel_rfl
theorem t122 : tb.get 122 = some fd122 := by kernel_rfl
theorem t124 : tb.get 124 = some fd124 := by kernel_rfl
theorem t125 : tb.get 125 = some fd125 := by kernel_rfl
theorem t126 : tb.get 126 = some fd126 := by kernel_rfl
theorem t127 : tb.get 127 = some fd127 := by kernel_rfl
theorem t130 : tb.get 130 = some fd130 := by kernel_rfl
theorem t131 : tb.get 131 = some fd131 := by kernel_rfl
theorem t132 : tb.get 132 = some fd132 := by kernel_rfl
theorem t133 : tb.get 133 = some fd133 := by kernel_rfl
theorem t136 : tb.get 136 = some fd136 := by kernel_rfl
theorem t137 : tb.get 137 = some fd137 := by kernel_rfl
theorem t138 : tb.get 138 = some fd138 := by kernel_rfl
theorem t149 : tb.get 149 = some fd149 := by kernel_rfl
theorem t158 : tb.get 158 = some fd158 := by kernel_rfl
theorem t169 : tb.get 169 = some fd169 := by kernel_rfl
theorem t170 : tb.get 170 = some fd170 := by kernel_rfl
theorem t171 : tb.get 171 = some fd171 := by kernel_rfl
theorem t172 : tb.get 172 = some fd172 := by kernel_rfl
theorem t173 : tb.get 173 = some fd173 := by kernel_rfl
theorem t174 : tb.get 174 = some fd174 := by kernel_rfl
theorem t175 : tb.get 175 = some fd175 := by kernel_rfl
theorem t176 : tb.get 176 = some fd176 := by kernel_rfl
theorem t177 : tb.get 177 = some fd177 := by kernel_rfl
theorem t178 : tb.get 178 = some fd178 := by kernel_rfl
theorem t179 : tb.get 179 = some fd179 := by kernel_rfl
theorem t180 : tb.get 180 = some fd180 := by kernel_rfl
theorem t190 : tb.get 190 = some fd190 := by kernel_rfl
theorem t191 : tb.get 191 = some fd191 := by kernel_rfl
theorem t194 : tb.get 194 = some fd194 := by kernel_rfl
theorem t195 : tb.get 195 = some fd195 := by kernel_rfl
theorem t198 : tb.get 198 = some fd198 := by kernel_rfl
theorem t199 : tb.get 199 = some fd199 := by kernel_rfl
theorem t200 : tb.get 200 = some fd200 := by kernel_rfl
theorem t201 : tb.get 201 = some fd201 := by kernel_rfl
theorem t202 : tb.get 202 = some fd202 := by kernel_rfl
theorem t203 : tb.get 203 = some fd203 := by kernel_rfl
theorem t204 : tb.get 204 = some fd204 := by kernel_rfl
theorem t205 : tb.get 205 = some fd205 := by kernel_rfl
theorem t211 : tb.get 211 = some fd211 := by kernel_rfl
theorem t231 : tb.get 231 = some fd231 := by kernel_rfl
theorem t232 : tb.get 232 = some fd232 := by kernel_rfl
theorem t233 : tb.get 233 = some fd233 := by kernel_rfl
theorem t234 : tb.get 234 = some fd234 := by kernel_rfl
theorem t235 : tb.get 235 = some fd235 := by kernel_rfl
theorem t236 : tb.get 236 = some fd236 := by kernel_rfl
theorem t241 : tb.get 241 = some fd241 := by kernel_rfl
theorem t242 : tb.get 242 = some fd242 := by kernel_rfl
theorem t244 : tb.get 244 = some fd244 := by kernel_rfl
theorem t245 : tb.get 245 = some fd245 := by kernel_rfl
theorem t246 : tb.get 246 = some fd246 := by kernel_rfl
theorem t247 : tb.get 247 = some fd247 := by kernel_rfl
theorem t260 : tb.get 260 = some fd260 := by kernel_rfl
theorem t264 : tb.get 264 = some fd264 := by kernel_rfl
theorem t265 : tb.get 265 = some fd265 := by kernel_rfl
theorem t266 : tb.get 266 = some fd266 := by kernel_rfl
theorem t267 : tb.get 267 = some fd267 := by kernel_rfl
theorem t269 : tb.get 269 = some fd269 := by kernel_rfl
theorem t270 : tb.get 270 = some fd270 := by kernel_rfl
theorem t271 : tb.get 271 = some fd271 := by kernel_rfl
theorem t272 : tb.get 272 = some fd272 := by kernel_rfl
theorem t273 : tb.get 273 = some fd273 := by kernel_rfl
theorem t274 : tb.get 274 = some fd274 := by kernel_rfl
theorem t275 : tb.get 275 = some fd275 := by kernel_rfl
theorem t276 : tb.get 276 = some fd276 := by kernel_rfl
theorem t277 : tb.get 277 = some fd277 := by kernel_rfl
theorem t279 : tb.get 279 = some fd279 := by kernel_rfl
theorem t285 : tb.get 285 = some fd285 := by kernel_rfl
theorem t286 : tb.get 286 = some fd286 := by kernel_rfl
theorem t287 : tb.get 287 = some fd287 := by kernel_rfl
theorem t288 : tb.get 288 = some fd288 := by kernel_rfl
theorem t289 : tb.get 289 = some fd289 := by kernel_rfl
theorem t290 : tb.get 290 = some fd290 := by kernel_rfl
theorem t291 : tb.get 291 = some fd291 := by kernel_rfl
theorem t292 : tb.get 292 = some fd292 := by kernel_rfl
theorem t293 : tb.get 293 = some fd293 := by kernel_rfl
theorem t294 : tb.get 294 = some fd294 := by kernel_rfl
theorem t295 : tb.get 295 = some fd295 := by kernel_rfl
theorem t296 : tb.get 296 = some fd296 := by kernel_rfl
theorem t301 : tb.get 301 = some fd301 := by kernel_rfl
theorem t302 : tb.get 302 = some fd302 := by kernel_rfl
theorem t303 : tb.get 303 = some fd303 := by kernel_rfl
theorem t304 : tb.get 304 = some fd304 := by kernel_rfl
theorem t305 : tb.get 305 = some fd305 := by kernel_rfl
end Go.Proofs.YtakdnpafdadblaaGreat.EV
namespace Go.Proofs.YtakdnpafdadblaaGreat.EV
open Go
def Rising {α : Type} (x : Nat → Option α) : Prop := ∀ n a, x n = some a → x (n + 1) = some a
theorem Rising.le {α : Type} {x : Nat → Option α} (h : Rising x) {n m : Nat} {a : α} (hn : x n = some a) (hm : n ≤ m) : x m = some a := by
  induction m with
  | zero => have : n = 0 := by omega
            subst this; exact hn
  | succ m ih =>
    by_cases e : n = m + 1
    · subst e; exact hn
    · exact h _ _ (ih (by omega))
open Classical in
noncomputable def lim {α : Type} (x : Nat → Option α) : Option α := if h : ∃ d a, x d = some a then some h.choose_spec.choose else none
theorem lim_ex {α : Type} {x : Nat → Option α} {a : α} (h : lim x = some a) : ∃ d, x d = some a := by
  unfold lim at h
  split at h
  · rename_i hx
    cases h
    exact ⟨_, hx.choose_spec.choose_spec⟩
  · cases h
theorem lim_eq {α : Type} {x : Nat → Option α} (hr : Rising x) {d : Nat} {a : α} (h : x d = some a) : lim x = some a := by
  unfold lim
  have hx : ∃ d a, x d = some a := ⟨d, a, h⟩
  rw [dif_pos hx]
  have h2 := hx.choose_spec.choose_spec
  have h3 := hr.le h2 (Nat.le_max_left hx.choose d)
  have h4 := hr.le h (Nat.le_max_right hx.choose d)
  rw [h3] at h4
  exact h4
def LeH (K K' : H) : Prop := ∀ f as s x, K f as s = some x → K' f as s = some x
theorem LeH.refl (K : H) : LeH K K := fun _ _ _ _ h => h
theorem LeH.trans {K K1 K2 : H} (h : LeH K K1) (k : LeH K1 K2) : LeH K K2 := fun f as s x hx => k _ _ _ _ (h _ _ _ _ hx)
theorem quiet_mono {K K' : H} (hK : LeH K K') {f : Value} {as : List Value} {s : St} {x : Value × St} (h : quiet K f as s = some x) : quiet K' f as s = some x := by
  unfold quiet at h ⊢
  split at h
  · rename_i v s' hv
    rw [hK _ _ _ _ hv]; exact h
  · cases h
theorem prot_mono {K K' : H} (hK : LeH K K') {f : Value} {as : List Value} {pr : Option (List Nat)} {s : St} {x : Value × St} (h : prot K f as pr s = some x) : prot K' f as pr s = some x := by
  unfold prot at h ⊢
  split at h
  · cases h
  · exact hK _ _ _ _ h
  · split at h
    · rename_i v s' hv
      rw [hK _ _ _ _ hv]; exact h
    · cases h
theorem callK_mono {K K' : H} (hK : LeH K K') {f : Value} {as : List Value} {q : Bool} {pr : Option (List Nat)} {s : St} {x : Value × St} (h : callK K f as q pr s = some x) : callK K' f as q pr s = some x := by
  unfold callK at h ⊢
  split at h
  · rename_i hq; rw [if_pos hq]; exact quiet_mono hK h
  · rename_i hq; rw [if_neg hq]; exact prot_mono hK h
section
variable (ro : Addr → Option Value)
theorem op1_mono {K K' : H} (hK : LeH K K') {p : P} {e : Env} {s : St} {x : Value × St} (h : op1 ro K p e s = some x) : op1 ro K' p e s = some x := by
  cases p with
  | cal f as q pr =>
    simp only [op1] at h ⊢
    split at h
    · exact callK_mono hK h
    · cases h
  | clv f as q pr =>
    simp only [op1] at h ⊢
    split at h
    · exact callK_mono hK h
    · cases h
  | _ => exact h
theorem step_mono {K K' : H} (hK : LeH K K') {i : I} {e : Env} {s : St} {x : Env × St} (h : step ro K i e s = some x) : step ro K' i e s = some x := by
  unfold step at h ⊢
  split at h
  · split at h
    · rename_i v s' hv
      rw [op1_mono ro hK hv]; exact h
    · cases h
  · exact h
  · cases h
theorem ops_mono {K K' : H} (hK : LeH K K') : ∀ {l : List I} {e : Env} {s : St} {x : Env × St}, ops ro K l e s = some x → ops ro K' l e s = some x
  | [], _, _, _, h => h
  | i :: r, e, s, x, h => by
    simp only [ops] at h ⊢
    split at h
    · rename_i e' s' hv
      rw [step_mono ro hK hv]; exact ops_mono hK h
    · cases h
abbrev Stt := Out × Env × St
theorem loopN_rising (f : Env → St → Option Stt) : ∀ (n : Nat) (e : Env) (s : St) (x : Stt), loopN f n e s = some x → loopN f (n + 1) e s = some x
  | 0, _, _, _, h => by simp [loopN] at h
  | n + 1, e, s, x, h => by
    rw [loopN] at h ⊢
    split at h
    · rename_i e' s' hv
      exact loopN_rising f n _ _ _ h
    · rename_i r hr
      exact h
theorem loopN_mono {f g : Env → St → Option Stt} (hf : ∀ e s x, f e s = some x → g e s = some x) : ∀ (n : Nat) (e : Env) (s : St) (x : Stt), loopN f n e s = some x → loopN g n e s = some x
  | 0, _, _, _, h => by simp [loopN] at h
  | n + 1, e, s, x, h => by
    rw [loopN] at h ⊢
    split at h
    · rename_i e' s' hv
      rw [hf _ _ _ hv]
      exact loopN_mono hf n _ _ _ h
    · rename_i hr
      rw [hf _ _ _ h]
      split
      · rename_i e' s' he
        cases he
        exact (hr _ _ h).elim
      · rfl
noncomputable def loopL (f : Env → St → Option Stt) (e : Env) (s : St) : Option Stt := lim (fun m => loopN f m e s)
theorem loopL_eq (f : Env → St → Option Stt) (e : Env) (s : St) : loopL f e s = match f e s with
    | some (.nrm, e', s') => loopL f e' s'
    | r => r := by
  apply Option.ext
  intro x
  constructor
  · intro h
    obtain ⟨d, hd⟩ := lim_ex h
    cases d with
    | zero => simp [loopN] at hd
    | succ d =>
      rw [loopN] at hd
      split at hd
      · rename_i e' s' hv
        rw [hv]
        exact lim_eq (fun n a => loopN_rising f n _ _ a) hd
      · rename_i hr
        split
        · rename_i e' s' hv; exact (hr _ _ hv).elim
        · exact hd
  · intro h
    split at h
    · rename_i e' s' hv
      obtain ⟨d, hd⟩ := lim_ex h
      refine lim_eq (d := d + 1) (fun n a => loopN_rising f n _ _ a) ?_
      rw [loopN, hv]; exact hd
    · rename_i hr
      refine lim_eq (d := 1) (fun n a => loopN_rising f n _ _ a) ?_
      rw [loopN]
      split
      · rename_i e' s' hv; exact (hr _ _ hv).elim
      · exact h
noncomputable def codeL (K : H) : C → Env → St → Option Stt
  | .nop, e, s => some (.nrm, e, s)
  | .reg l live, e, s => match ops ro K l e s with
    | some (e', s') => some (.nrm, keep e' live, s')
    | none => none
  | .seq a b, e, s => match codeL K a e s with
    | some (.nrm, e', s') => codeL K b e' s'
    | r => r
  | .cnd c a b, e, s => match opd e c with
    | some (.bool true) => codeL K a e s
    | some (.bool false) => codeL K b e s
    | _ => none
  | .blk id b, e, s => match codeL K b e s with
    | some (.exi i, e', s') => if i = id then some (.nrm, e', s') else some (.exi i, e', s')
    | r => r
  | .lop b, e, s => loopL (codeL K b) e s
  | .rf f ps asg body, e, s => match opd e f with
    | some (.func (.func g) fs cs) => match K (.func (.func g) fs cs) [.func (.yield s.nl) #[] #[]] (newLoop e ps asg body s) with
      | some (_, s') => endLoop s.nl e s'
      | none => none
    | _ => none
  | .exi id, e, s => some (.exi id, e, s)
  | .ret, e, s => some (.ret, e, s)
theorem code_mono {K K' : H} (hK : LeH K K') {m m' : Nat} (hm : m ≤ m') : ∀ (c : C) (e : Env) (s : St) (x : Stt), code ro K m c e s = some x → code ro K' m' c e s = some x
  | .nop, _, _, _, h => h
  | .reg l live, e, s, x, h => by
    simp only [code] at h ⊢
    split at h
    · rename_i e' s' hv
      rw [ops_mono ro hK hv]; exact h
    · cases h
  | .seq a b, e, s, x, h => by
    simp only [code] at h ⊢
    split at h
    · rename_i e' s' hv
      rw [code_mono hK hm a _ _ _ hv]; exact code_mono hK hm b _ _ _ h
    · rename_i hr
      rw [code_mono hK hm a _ _ _ h]
      split
      · rename_i e' s' he; cases he; exact (hr _ _ h).elim
      · rfl
  | .cnd c a b, e, s, x, h => by
    simp only [code] at h ⊢
    split at h
    · exact code_mono hK hm a _ _ _ h
    · exact code_mono hK hm b _ _ _ h
    · cases h
  | .blk id b, e, s, x, h => by
    simp only [code] at h ⊢
    split at h
    · rename_i i e' s' hv
      rw [code_mono hK hm b _ _ _ hv]; exact h
    · rename_i hr
      rw [code_mono hK hm b _ _ _ h]
      split
      · rename_i i e' s' he; cases he; exact (hr _ _ _ h).elim
      · rfl
  | .lop b, e, s, x, h => by
    simp only [code] at h ⊢
    have h1 := loopN_mono (fun e s x => code_mono hK hm b e s x) m e s x h
    exact Rising.le (x := fun n => loopN (fun e s => code ro K' m' b e s) n e s) (fun n a => loopN_rising _ n _ _ a) h1 hm
  | .rf f ps asg bd, e, s, x, h => by
    simp only [code] at h ⊢
    split at h
    · rename_i g fs cs hf
      split at h
      · rename_i r s' hv
        rw [hK _ _ _ _ hv]; exact h
      · cases h
    · cases h
  | .exi id, _, _, _, h => h
  | .ret, _, _, _, h => h
theorem code_codeL {K K' : H} (hK : LeH K K') {m : Nat} : ∀ (c : C) (e : Env) (s : St) (x : Stt), code ro K m c e s = some x → codeL ro K' c e s = some x
  | .nop, _, _, _, h => h
  | .reg l live, e, s, x, h => by
    simp only [code, codeL] at h ⊢
    split at h
    · rename_i e' s' hv
      rw [ops_mono ro hK hv]; exact h
    · cases h
  | .seq a b, e, s, x, h => by
    simp only [code, codeL] at h ⊢
    split at h
    · rename_i e' s' hv
      rw [code_codeL hK a _ _ _ hv]; exact code_codeL hK b _ _ _ h
    · rename_i hr
      rw [code_codeL hK a _ _ _ h]
      split
      · rename_i e' s' he; cases he; exact (hr _ _ h).elim
      · rfl
  | .cnd c a b, e, s, x, h => by
    simp only [code, codeL] at h ⊢
    split at h
    · rename_i hb; rw [hb]; exact code_codeL hK a _ _ _ h
    · rename_i hb; rw [hb]; exact code_codeL hK b _ _ _ h
    · cases h
  | .blk id b, e, s, x, h => by
    simp only [code, codeL] at h ⊢
    split at h
    · rename_i i e' s' hv
      rw [code_codeL hK b _ _ _ hv]; exact h
    · rename_i hr
      rw [code_codeL hK b _ _ _ h]
      split
      · rename_i i e' s' he; cases he; exact (hr _ _ _ h).elim
      · rfl
  | .lop b, e, s, x, h => by
    simp only [code, codeL] at h ⊢
    have h1 := loopN_mono (fun e s x => code_codeL hK b e s x) m e s x h
    exact lim_eq (x := fun n => loopN (codeL ro K' b) n e s) (fun n a => loopN_rising _ n _ _ a) h1
  | .rf f ps asg bd, e, s, x, h => by
    simp only [code, codeL] at h ⊢
    split at h
    · rename_i g fs cs hf
      split at h
      · rename_i r s' hv
        rw [hf]; dsimp only; rw [hK _ _ _ _ hv]; exact h
      · cases h
    · cases h
  | .exi id, _, _, _, h => h
  | .ret, _, _, _, h => h
structure Chain (Kd : Nat → H) (K : H) : Prop where
  up : ∀ d, LeH (Kd d) (Kd (d + 1))
  le : ∀ d, LeH (Kd d) K
  ex : ∀ f as s x, K f as s = some x → ∃ d, Kd d f as s = some x
section
variable {Kd : Nat → H} {K : H} (hc : Chain Kd K)
include hc
theorem Chain.upl {n m : Nat} (h : n ≤ m) : LeH (Kd n) (Kd m) := fun f as s _ hx => Rising.le (x := fun d => Kd d f as s) (fun n a => hc.up n f as s a) hx h
theorem quiet_cont {f : Value} {as : List Value} {s : St} {x : Value × St} (h : quiet K f as s = some x) : ∃ d, quiet (Kd d) f as s = some x := by
  unfold quiet at h
  split at h
  · rename_i v s' hv
    obtain ⟨d, hd⟩ := hc.ex _ _ _ _ hv
    exact ⟨d, by unfold quiet; rw [hd]; exact h⟩
  · cases h
theorem prot_cont {f : Value} {as : List Value} {pr : Option (List Nat)} {s : St} {x : Value × St} (h : prot K f as pr s = some x) : ∃ d, prot (Kd d) f as pr s = some x := by
  unfold prot at h
  split at h
  · cases h
  · obtain ⟨d, hd⟩ := hc.ex _ _ _ _ h
    exact ⟨d, hd⟩
  · rename_i l hl
    split at h
    · rename_i v s' hv
      obtain ⟨d, hd⟩ := hc.ex _ _ _ _ hv
      refine ⟨d, ?_⟩
      unfold prot
      split
      · rename_i e; cases e
      · rename_i e; cases e; exact (hl rfl).elim
      · rename_i e; cases e; rw [hd]; exact h
    · cases h
theorem callK_cont {f : Value} {as : List Value} {q : Bool} {pr : Option (List Nat)} {s : St} {x : Value × St} (h : callK K f as q pr s = some x) : ∃ d, callK (Kd d) f as q pr s = some x := by
  unfold callK at h
  split at h
  · rename_i hq
    obtain ⟨d, hd⟩ := quiet_cont hc h
    exact ⟨d, by unfold callK; rw [if_pos hq]; exact hd⟩
  · rename_i hq
    obtain ⟨d, hd⟩ := prot_cont hc h
    exact ⟨d, by unfold callK; rw [if_neg hq]; exact hd⟩
theorem op1_cont {p : P} {e : Env} {s : St} {x : Value × St} (h : op1 ro K p e s = some x) : ∃ d, op1 ro (Kd d) p e s = some x := by
  cases p with
  | cal f as q pr =>
    simp only [op1] at h ⊢
    split at h
    · exact callK_cont hc h
    · cases h
  | clv f as q pr =>
    simp only [op1] at h ⊢
    split at h
    · exact callK_cont hc h
    · cases h
  | _ => exact ⟨0, h⟩
theorem step_cont {i : I} {e : Env} {s : St} {x : Env × St} (h : step ro K i e s = some x) : ∃ d, step ro (Kd d) i e s = some x := by
  unfold step at h ⊢
  split at h
  · split at h
    · rename_i v s' hv
      obtain ⟨d, hd⟩ := op1_cont ro hc hv
      exact ⟨d, by rw [hd]; exact h⟩
    · cases h
  · exact ⟨0, h⟩
  · cases h
theorem ops_cont : ∀ {l : List I} {e : Env} {s : St} {x : Env × St}, ops ro K l e s = some x → ∃ d, ops ro (Kd d) l e s = some x
  | [], _, _, _, h => ⟨0, h⟩
  | i :: r, e, s, x, h => by
    simp only [ops] at h ⊢
    split at h
    · rename_i e' s' hv
      obtain ⟨d1, h1⟩ := step_cont ro hc hv
      obtain ⟨d2, h2⟩ := ops_cont h
      refine ⟨max d1 d2, ?_⟩
      rw [step_mono ro (hc.upl (Nat.le_max_left d1 d2)) h1]
      exact ops_mono ro (hc.upl (Nat.le_max_right d1 d2)) h2
    · cases h
omit hc in
theorem loop_cont {f : Env → St → Option Stt} {g : Nat → Env → St → Option Stt} (hg : ∀ d e s x, g d e s = some x → g (d + 1) e s = some x) (hf : ∀ e s x, f e s = some x → ∃ d, g d e s = some x) : ∀ (n : Nat) (e : Env) (s : St) (x : Stt), loopN f n e s = some x → ∃ d, loopN (g d) n e s = some x
  | 0, _, _, _, h => by simp [loopN] at h
  | n + 1, e, s, x, h => by
    have hup : ∀ {a b : Nat}, a ≤ b → ∀ e s x, g a e s = some x → g b e s = some x := fun hab e s x hx => Rising.le (x := fun d => g d e s) (fun n a => hg n e s a) hx hab
    rw [loopN] at h
    split at h
    · rename_i e' s' hv
      obtain ⟨d1, h1⟩ := hf _ _ _ hv
      obtain ⟨d2, h2⟩ := loop_cont hg hf n _ _ _ h
      refine ⟨max d1 d2, ?_⟩
      rw [loopN, hup (Nat.le_max_left d1 d2) _ _ _ h1]
      exact loopN_mono (hup (Nat.le_max_right d1 d2)) n _ _ _ h2
    · rename_i hr
      obtain ⟨d1, h1⟩ := hf _ _ _ h
      refine ⟨d1, ?_⟩
      rw [loopN, h1]
      split
      · rename_i e' s' he; cases he; exact (hr _ _ h).elim
      · rfl
theorem codeL_cont : ∀ (c : C) (e : Env) (s : St) (x : Stt), codeL ro K c e s = some x → ∃ d, code ro (Kd d) d c e s = some x
  | .nop, _, _, _, h => ⟨0, h⟩
  | .reg l live, e, s, x, h => by
    simp only [codeL] at h
    simp only [code]
    split at h
    · rename_i e' s' hv
      obtain ⟨d, hd⟩ := ops_cont ro hc hv
      exact ⟨d, by rw [hd]; exact h⟩
    · cases h
  | .seq a b, e, s, x, h => by
    simp only [codeL] at h
    simp only [code]
    split at h
    · rename_i e' s' hv
      obtain ⟨d1, h1⟩ := codeL_cont a _ _ _ hv
      obtain ⟨d2, h2⟩ := codeL_cont b _ _ _ h
      refine ⟨max d1 d2, ?_⟩
      rw [code_mono ro (hc.upl (Nat.le_max_left d1 d2)) (Nat.le_max_left d1 d2) _ _ _ _ h1]
      exact code_mono ro (hc.upl (Nat.le_max_right d1 d2)) (Nat.le_max_right d1 d2) _ _ _ _ h2
    · rename_i hr
      obtain ⟨d1, h1⟩ := codeL_cont a _ _ _ h
      refine ⟨d1, ?_⟩
      rw [h1]
      split
      · rename_i e' s' he; cases he; exact (hr _ _ h).elim
      · rfl
  | .cnd c a b, e, s, x, h => by
    simp only [codeL] at h
    simp only [code]
    split at h
    · rename_i hb; rw [hb]; exact codeL_cont a _ _ _ h
    · rename_i hb; rw [hb]; exact codeL_cont b _ _ _ h
    · cases h
  | .blk id b, e, s, x, h => by
    simp only [codeL] at h
    simp only [code]
    split at h
    · rename_i i e' s' hv
      obtain ⟨d1, h1⟩ := codeL_cont b _ _ _ hv
      exact ⟨d1, by rw [h1]; exact h⟩
    · rename_i hr
      obtain ⟨d1, h1⟩ := codeL_cont b _ _ _ h
      refine ⟨d1, ?_⟩
      rw [h1]
      split
      · rename_i i e' s' he; cases he; exact (hr _ _ _ h).elim
      · rfl
  | .lop b, e, s, x, h => by
    simp only [codeL] at h
    simp only [code]
    obtain ⟨n, hn⟩ := lim_ex h
    obtain ⟨d, hd⟩ := loop_cont (g := fun d e s => code ro (Kd d) d b e s) (fun d e s x hx => code_mono ro (hc.up d) (Nat.le_succ d) _ _ _ _ hx) (codeL_cont b) n e s x hn
    refine ⟨max n d, ?_⟩
    have h1 := loopN_mono (fun e s x hx => code_mono ro (hc.upl (Nat.le_max_right n d)) (Nat.le_max_right n d) b e s x hx) n e s x hd
    exact Rising.le (x := fun k => loopN (fun e s => code ro (Kd (max n d)) (max n d) b e s) k e s) (fun k a => loopN_rising _ k _ _ a) h1 (Nat.le_max_left n d)
  | .rf f ps asg bd, e, s, x, h => by
    simp only [codeL] at h
    simp only [code]
    split at h
    · rename_i g fs cs hf
      split at h
      · rename_i r s' hv
        obtain ⟨d, hd⟩ := hc.ex _ _ _ _ hv
        exact ⟨d, by rw [hf]; dsimp only; rw [hd]; exact h⟩
      · cases h
    · cases h
  | .exi id, _, _, _, h => ⟨0, h⟩
  | .ret, _, _, _, h => ⟨0, h⟩
end
noncomputable def bodyL (K : H) (fd : FD) (as : List Value) (s : St) : Option (Value × St) :=
  if as.length = fd.np then
    match codeL ro K fd.body (params 0 as) s with
    | some (.exi _, _, _) => none
    | some (_, e, s') => match results ro e s' fd.res with
      | some vs => some (pack vs, s')
      | none => none
    | none => none
  else none
noncomputable def round2L (K : H) (l : Nat) (r : Rec) (e : Env) (s : St) : Option (Value × St) :=
  match lget s.lps l with
  | some r1 => match r1.st with
    | .ready => match codeL ro K r.body e { s with lps := lset s.lps l { r1 with st := .busy } } with
      | some (o, _, s2) => match lget s2.lps l with
        | some r2 => some (.bool o.isNrm, { s2 with lps := lset s2.lps l { r2 with st := if o.isNrm then .ready else .done, pend := o } })
        | none => none
      | none => none
    | _ => none
  | none => none
noncomputable def roundL (K : H) (l : Nat) (as : List Value) (s : St) : Option (Value × St) :=
  if l < s.lf then none else
  match lget s.lps l with
  | some r => match r.st with
    | .ready => match setAll r.env r.ps as with
      | some e0 => match codeL ro K r.asg e0 s with
        | some (.nrm, e1, s1) => round2L ro K l r e1 s1
        | _ => none
      | none => none
    | _ => none
  | none => none
section
variable {K K' : H} {ro}
theorem body_of {m : Nat} (hcode : ∀ c e s x, code ro K m c e s = some x → codeL ro K' c e s = some x) {fd : FD} {as : List Value} {s : St} {x : Value × St} (h : body ro K m fd as s = some x) : bodyL ro K' fd as s = some x := by
  unfold body at h
  unfold bodyL
  split at h
  · rename_i hl
    rw [if_pos hl]
    split at h
    · cases h
    · rename_i o e s' hno hv
      rw [hcode _ _ _ _ hv]
      split
      · rename_i i _ _ he; cases he; exact (hno _ rfl).elim
      · rename_i he; cases he; exact h
      · rename_i he; cases he
    · cases h
  · cases h
theorem round2_of {m : Nat} (hcode : ∀ c e s x, code ro K m c e s = some x → codeL ro K' c e s = some x) {l : Nat} {r : Rec} {e : Env} {s : St} {x : Value × St} (h : round2 ro K m l r e s = some x) : round2L ro K' l r e s = some x := by
  unfold round2 at h
  unfold round2L
  split at h
  · rename_i r1 h1
    rw [h1]; dsimp only
    split at h
    · rename_i hs
      rw [hs]; dsimp only
      split at h
      · rename_i o e2 s2 hv
        rw [hcode _ _ _ _ hv]; exact h
      · cases h
    · cases h
  · cases h
theorem round_of {m : Nat} (hcode : ∀ c e s x, code ro K m c e s = some x → codeL ro K' c e s = some x) {l : Nat} {as : List Value} {s : St} {x : Value × St} (h : round ro K m l as s = some x) : roundL ro K' l as s = some x := by
  unfold round at h
  unfold roundL
  split at h
  · cases h
  · rename_i hl
    rw [if_neg hl]
    split at h
    · rename_i r hr
      rw [hr]; dsimp only
      split at h
      · rename_i hs
        rw [hs]; dsimp only
        split at h
        · rename_i e0 he
          rw [he]; dsimp only
          split at h
          · rename_i e1 s1 hv
            rw [hcode _ _ _ _ hv]; exact round2_of hcode h
          · cases h
        · cases h
      · cases h
    · cases h
end
section
variable (tab : Nat → Option FD) (orc : Orc)
theorem body_mono {K K' : H} (hK : LeH K K') {m m' : Nat} (hm : m ≤ m') {fd : FD} {as : List Value} {s : St} {x : Value × St} (h : body ro K m fd as s = some x) : body ro K' m' fd as s = some x := by
  unfold body at h ⊢
  split at h
  · rename_i hl
    rw [if_pos hl]
    split at h
    · cases h
    · rename_i o e s' hno hv
      rw [code_mono ro hK hm _ _ _ _ hv]
      split
      · rename_i i _ _ he; cases he; exact (hno _ rfl).elim
      · rename_i he; cases he; exact h
      · rename_i he; cases he
    · cases h
  · cases h
theorem round_mono {K K' : H} (hK : LeH K K') {m m' : Nat} (hm : m ≤ m') {l : Nat} {as : List Value} {s : St} {x : Value × St} (h : round ro K m l as s = some x) : round ro K' m' l as s = some x := by
  unfold round at h ⊢
  split at h
  · cases h
  · rename_i hl
    rw [if_neg hl]
    split at h
    · rename_i r hr
      split at h
      · rename_i hs
        split at h
        · rename_i e0 he
          split at h
          · rename_i e1 s1 hv
            rw [code_mono ro hK hm _ _ _ _ hv]; dsimp only
            unfold round2 at h ⊢
            split at h
            · rename_i r1 h1
              split at h
              · rename_i hs1
                split at h
                · rename_i o e2 s2 hv2
                  rw [code_mono ro hK hm _ _ _ _ hv2]; exact h
                · cases h
              · cases h
            · cases h
          · cases h
        · cases h
      · cases h
    · cases h
theorem run_up : ∀ d, LeH (run ro tab orc d) (run ro tab orc (d + 1))
  | 0 => fun f as s x h => by simp [run] at h
  | d + 1 => fun f as s x h => by
    have ih := run_up d
    simp only [run] at h ⊢
    split at h
    · split at h
      · rename_i o ho; exact h
      · rename_i ho
        split at h
        · rename_i fd hf; exact body_mono ro ih (Nat.le_succ d) h
        · cases h
    · exact round_mono ro ih (Nat.le_succ d) h
    · cases h
noncomputable def KL : H := fun f as s => lim (fun d => run ro tab orc d f as s)
theorem KL_chain : Chain (run ro tab orc) (KL ro tab orc) where
  up := run_up ro tab orc
  le := fun d f as s x h => lim_eq (x := fun d => run ro tab orc d f as s) (fun n a => run_up ro tab orc n f as s a) h
  ex := fun f as s x h => lim_ex h
theorem KL_run {f : Value} {as : List Value} {s : St} {x : Value × St} (h : KL ro tab orc f as s = some x) : ∃ d, run ro tab orc d f as s = some x := lim_ex h
variable {tab orc}
theorem KL_fn {f : Nat} {fd : FD} (ho : orc f = none) (h : tab f = some fd) (first capt : Array Value) (as : List Value) (s : St) :
    KL ro tab orc (.func (.func f) first capt) as s = bodyL ro (KL ro tab orc) fd (first.toList ++ as ++ capt.toList) s := by
  have hd : ∀ d, run ro tab orc (d + 1) (.func (.func f) first capt) as s = body ro (run ro tab orc d) d fd (first.toList ++ as ++ capt.toList) s := fun d => by simp [run, ho, h]
  have hc := KL_chain ro tab orc
  apply Option.ext
  intro x
  constructor
  · intro hx
    obtain ⟨d, hd'⟩ := lim_ex hx
    cases d with
    | zero => simp [run] at hd'
    | succ d =>
      rw [hd] at hd'
      exact body_of (fun c e s x => code_codeL ro (hc.le d) c e s x) hd'
  · intro hx
    unfold bodyL at hx
    split at hx
    · rename_i hl
      split at hx
      · cases hx
      · rename_i o e s' hno hv
        obtain ⟨m, hm⟩ := codeL_cont ro hc _ _ _ _ hv
        refine hc.le (m + 1) _ _ _ _ ((hd m).trans ?_)
        unfold body
        rw [if_pos hl, hm]
        split
        · rename_i i _ _ he; cases he; exact (hno _ rfl).elim
        · rename_i he; cases he; exact hx
        · rename_i he; cases he
      · cases hx
    · cases hx
theorem KL_yield (l : Nat) (a b : Array Value) (as : List Value) (s : St) : KL ro tab orc (.func (.yield l) a b) as s = roundL ro (KL ro tab orc) l as s := by
  have hd : ∀ d, run ro tab orc (d + 1) (.func (.yield l) a b) as s = round ro (run ro tab orc d) d l as s := fun d => by simp [run]
  have hc := KL_chain ro tab orc
  apply Option.ext
  intro x
  constructor
  · intro hx
    obtain ⟨d, hd'⟩ := lim_ex hx
    cases d with
    | zero => simp [run] at hd'
    | succ d =>
      rw [hd] at hd'
      exact round_of (fun c e s x => code_codeL ro (hc.le d) c e s x) hd'
  · intro hx
    unfold roundL at hx
    split at hx
    · cases hx
    · rename_i hl
      split at hx
      · rename_i r hr
        split at hx
        · rename_i hs
          split at hx
          · rename_i e0 he
            split at hx
            · rename_i e1 s1 hv
              obtain ⟨m1, h1⟩ := codeL_cont ro hc _ _ _ _ hv
              unfold round2L at hx
              split at hx
              · rename_i r1 hr1
                split at hx
                · rename_i hs1
                  split at hx
                  · rename_i o e2 s2 hv2
                    obtain ⟨m2, h2⟩ := codeL_cont ro hc _ _ _ _ hv2
                    refine hc.le (max m1 m2 + 1) _ _ _ _ ((hd _).trans ?_)
                    unfold round
                    rw [if_neg hl, hr]; dsimp only; rw [hs]; dsimp only; rw [he]; dsimp only
                    rw [code_mono ro (hc.upl (Nat.le_max_left m1 m2)) (Nat.le_max_left m1 m2) _ _ _ _ h1]; dsimp only
                    unfold round2
                    rw [hr1]; dsimp only; rw [hs1]; dsimp only
                    rw [code_mono ro (hc.upl (Nat.le_max_right m1 m2)) (Nat.le_max_right m1 m2) _ _ _ _ h2]; exact hx
                  · cases hx
                · cases hx
              · cases hx
            · cases hx
          · cases hx
        · cases hx
      · cases hx
end
end
end Go.Proofs.YtakdnpafdadblaaGreat.EV
namespace Go.Proofs.YtakdnpafdadblaaGreat.EV.W
open Go
inductive Fm where
  | sq (b : C)
  | bk (id : Nat)
  | lp (b : C)
  | fn (res : List Res)
  | rnd (l : Nat)
  | rb (l : Nat) (b : C)
section
variable (ro : Addr → Option Value) (K : H)
noncomputable def Rk : Out → List Fm → Env → St → Option (Value × St)
  | _, [], _, _ => none
  | o, .sq b :: k, e, s => match o with
    | .nrm => match codeL ro K b e s with
      | some (o', e', s') => Rk o' k e' s'
      | none => none
    | o => Rk o k e s
  | o, .bk id :: k, e, s => match o with
    | .exi i => if i = id then Rk .nrm k e s else Rk (.exi i) k e s
    | o => Rk o k e s
  | o, .lp b :: k, e, s => match o with
    | .nrm => match codeL ro K (.lop b) e s with
      | some (o', e', s') => Rk o' k e' s'
      | none => none
    | o => Rk o k e s
  | o, .fn res :: _, e, s => match o with
    | .exi _ => none
    | _ => match results ro e s res with
      | some vs => some (pack vs, s)
      | none => none
  | o, .rb l b :: _, e, s => match o with
    | .nrm => match lget s.lps l with
      | some r1 => match r1.st with
        | .ready => match codeL ro K b e { s with lps := lset s.lps l { r1 with st := .busy } } with
          | some (o, _, s2) => match lget s2.lps l with
            | some r2 => some (.bool o.isNrm, { s2 with lps := lset s2.lps l { r2 with st := if o.isNrm then .ready else .done, pend := o } })
            | none => none
          | none => none
        | _ => none
      | none => none
    | _ => none
  | o, .rnd l :: _, _, s => match lget s.lps l with
    | some r2 => some (.bool o.isNrm, { s with lps := lset s.lps l { r2 with st := if o.isNrm then .ready else .done, pend := o } })
    | none => none
noncomputable def M (c : C) (k : List Fm) (e : Env) (s : St) : Option (Value × St) :=
  match codeL ro K c e s with
  | some (o, e', s') => Rk ro K o k e' s'
  | none => none
noncomputable def O (l : List I) (live : List Nat) (k : List Fm) (e : Env) (s : St) : Option (Value × St) :=
  match ops ro K l e s with
  | some (e', s') => Rk ro K .nrm k (keep e' live) s'
  | none => none
end
section
variable {ro : Addr → Option Value} {K : H}
theorem codeL_lop (b : C) (e : Env) (s : St) : codeL ro K (.lop b) e s = match codeL ro K b e s with
    | some (.nrm, e', s') => codeL ro K (.lop b) e' s'
    | r => r := by
  simp only [codeL]; exact loopL_eq _ e s
theorem M_nop (k : List Fm) (e : Env) (s : St) : M ro K .nop k e s = Rk ro K .nrm k e s := rfl
theorem M_exi (id : Nat) (k : List Fm) (e : Env) (s : St) : M ro K (.exi id) k e s = Rk ro K (.exi id) k e s := rfl
theorem M_ret (k : List Fm) (e : Env) (s : St) : M ro K .ret k e s = Rk ro K .ret k e s := rfl
theorem M_seq (a b : C) (k : List Fm) (e : Env) (s : St) : M ro K (.seq a b) k e s = M ro K a (.sq b :: k) e s := by
  unfold M
  simp only [codeL]
  cases h : codeL ro K a e s with
  | none => rfl
  | some x =>
    obtain ⟨o, e', s'⟩ := x
    cases o with
    | nrm => simp only [Rk]
    | exi i => simp only [Rk]
    | ret => simp only [Rk]
theorem M_blk (id : Nat) (b : C) (k : List Fm) (e : Env) (s : St) : M ro K (.blk id b) k e s = M ro K b (.bk id :: k) e s := by
  unfold M
  simp only [codeL]
  cases h : codeL ro K b e s with
  | none => rfl
  | some x =>
    obtain ⟨o, e', s'⟩ := x
    cases o with
    | nrm => simp only [Rk]
    | exi i => by_cases hi : i = id <;> simp [Rk, hi]
    | ret => simp only [Rk]
theorem M_lop (b : C) (k : List Fm) (e : Env) (s : St) : M ro K (.lop b) k e s = M ro K b (.lp b :: k) e s := by
  unfold M
  rw [codeL_lop]
  cases h : codeL ro K b e s with
  | none => rfl
  | some x =>
    obtain ⟨o, e', s'⟩ := x
    cases o with
    | nrm => simp only [Rk]
    | exi i => simp only [Rk]
    | ret => simp only [Rk]
theorem M_reg (l : List I) (live : List Nat) (k : List Fm) (e : Env) (s : St) : M ro K (.reg l live) k e s = O ro K l live k e s := by
  unfold M O
  simp only [codeL]
  cases h : ops ro K l e s with
  | none => rfl
  | some x => rfl
theorem M_cnd (c : Operand) (a b : C) (k : List Fm) (e : Env) (s : St) : M ro K (.cnd c a b) k e s = match opd e c with
    | some (.bool t) => if t = true then M ro K a k e s else M ro K b k e s
    | _ => none := by
  unfold M
  simp only [codeL]
  cases h : opd e c with
  | none => rfl
  | some v =>
    cases v with
    | bool t => cases t <;> rfl
    | _ => rfl
theorem M_rf (f : Operand) (ps : List Nat) (asg bd : C) (k : List Fm) (e : Env) (s : St) : M ro K (.rf f ps asg bd) k e s = match opd e f with
    | some (.func (.func g) fs cs) => match K (.func (.func g) fs cs) [.func (.yield s.nl) #[] #[]] (newLoop e ps asg bd s) with
      | some (_, s') => match endLoop s.nl e s' with
        | some (o, e', s'') => Rk ro K o k e' s''
        | none => none
      | none => none
    | _ => none := by
  unfold M
  simp only [codeL]
  cases h : opd e f with
  | none => rfl
  | some v =>
    cases v with
    | func fn fs cs =>
      cases fn with
      | func g =>
        dsimp only
        cases h2 : K (.func (.func g) fs cs) [.func (.yield s.nl) #[] #[]] (newLoop e ps asg bd s) with
        | none => rfl
        | some x => rfl
      | _ => rfl
    | _ => rfl
theorem Rk_sq (b : C) (k : List Fm) (e : Env) (s : St) : Rk ro K .nrm (.sq b :: k) e s = M ro K b k e s := rfl
theorem Rk_sq_exi (i : Nat) (b : C) (k : List Fm) (e : Env) (s : St) : Rk ro K (.exi i) (.sq b :: k) e s = Rk ro K (.exi i) k e s := rfl
theorem Rk_sq_ret (b : C) (k : List Fm) (e : Env) (s : St) : Rk ro K .ret (.sq b :: k) e s = Rk ro K .ret k e s := rfl
theorem Rk_bk (id : Nat) (k : List Fm) (e : Env) (s : St) : Rk ro K .nrm (.bk id :: k) e s = Rk ro K .nrm k e s := rfl
theorem Rk_bk_exi (i id : Nat) (k : List Fm) (e : Env) (s : St) : Rk ro K (.exi i) (.bk id :: k) e s = if i = id then Rk ro K .nrm k e s else Rk ro K (.exi i) k e s := rfl
theorem Rk_bk_ret (id : Nat) (k : List Fm) (e : Env) (s : St) : Rk ro K .ret (.bk id :: k) e s = Rk ro K .ret k e s := rfl
theorem Rk_lp (b : C) (k : List Fm) (e : Env) (s : St) : Rk ro K .nrm (.lp b :: k) e s = M ro K (.lop b) k e s := rfl
theorem Rk_lp_exi (i : Nat) (b : C) (k : List Fm) (e : Env) (s : St) : Rk ro K (.exi i) (.lp b :: k) e s = Rk ro K (.exi i) k e s := rfl
theorem Rk_lp_ret (b : C) (k : List Fm) (e : Env) (s : St) : Rk ro K .ret (.lp b :: k) e s = Rk ro K .ret k e s := rfl
theorem Rk_fn (res : List Res) (k : List Fm) (e : Env) (s : St) : Rk ro K .nrm (.fn res :: k) e s = match results ro e s res with
    | some vs => some (pack vs, s)
    | none => none := rfl
theorem Rk_fn_ret (res : List Res) (k : List Fm) (e : Env) (s : St) : Rk ro K .ret (.fn res :: k) e s = match results ro e s res with
    | some vs => some (pack vs, s)
    | none => none := rfl
theorem O_nil (live : List Nat) (k : List Fm) (e : Env) (s : St) : O ro K [] live k e s = Rk ro K .nrm k (keep e live) s := rfl
noncomputable def OC (ro : Addr → Option Value) (K : H) (x : Option (Value × St)) (d : Option Nat) (r : List I) (live : List Nat) (k : List Fm) (e : Env) : Option (Value × St) :=
  match x with
  | some (v, s') => O ro K r live k (setD d v e) s'
  | none => none
theorem OC_some (v : Value) (s' : St) (d : Option Nat) (r : List I) (live : List Nat) (k : List Fm) (e : Env) : OC ro K (some (v, s')) d r live k e = O ro K r live k (setD d v e) s' := rfl
theorem OC_none (d : Option Nat) (r : List I) (live : List Nat) (k : List Fm) (e : Env) : OC ro K none d r live k e = none := rfl
theorem OC_ite {c : Prop} [Decidable c] (x y : Option (Value × St)) (d : Option Nat) (r : List I) (live : List Nat) (k : List Fm) (e : Env) : OC ro K (if c then x else y) d r live k e = if c then OC ro K x d r live k e else OC ro K y d r live k e := by
  split <;> rfl
theorem O_cons (d : Option Nat) (p : P) (r : List I) (live : List Nat) (k : List Fm) (e : Env) (s : St) : O ro K (⟨d, p, none⟩ :: r) live k e s = OC ro K (op1 ro K p e s) d r live k e := by
  unfold O OC
  simp only [ops, step, guardOn]
  cases h : op1 ro K p e s with
  | none => rfl
  | some x => rfl
def gd : Option Value → Bool → Option Bool
  | some (.bool c), b => some (c == b)
  | some _, _ => some false
  | none, _ => none
theorem O_cons_g (d : Option Nat) (p : P) (j : Nat) (b : Bool) (r : List I) (live : List Nat) (k : List Fm) (e : Env) (s : St) : O ro K (⟨d, p, some (j, b)⟩ :: r) live k e s = match gd (lk e j) b with
    | some c => if c = true then OC ro K (op1 ro K p e s) d r live k e else O ro K r live k (setD d (.tuple #[]) e) s
    | none => none := by
  have : guardOn e (some (j, b)) = gd (lk e j) b := by
    simp only [guardOn]
    cases lk e j with
    | none => rfl
    | some v => cases v <;> rfl
  unfold O
  simp only [ops, step, this]
  cases h : gd (lk e j) b with
  | none => rfl
  | some c =>
    cases c with
    | true =>
      simp only [if_true]
      unfold OC
      cases h2 : op1 ro K p e s with
      | none => rfl
      | some x => rfl
    | false => rfl
theorem bodyL_M {fd : FD} {as : List Value} (s : St) (h : as.length = fd.np) : bodyL ro K fd as s = M ro K fd.body [.fn fd.res] (params 0 as) s := by
  unfold bodyL M
  rw [if_pos h]
  split
  · rename_i h2; rw [h2]; rfl
  · rename_i o e s' hno h2
    rw [h2]
    cases o with
    | nrm => rfl
    | ret => rfl
    | exi i => exact (hno i rfl).elim
  · rename_i h2; rw [h2]
theorem roundL_M {l : Nat} {r : Rec} {as : List Value} {s : St} {e0 : Env} (hlf : s.lf ≤ l) (h : lget s.lps l = some r) (hr : r.st = .ready) (he : setAll r.env r.ps as = some e0) :
    roundL ro K l as s = M ro K r.asg [.rb l r.body] e0 s := by
  unfold roundL
  rw [if_neg (by omega), h]
  simp only [hr, he]
  unfold M
  cases h1 : codeL ro K r.asg e0 s with
  | none => rfl
  | some x =>
    obtain ⟨o, e1, s1⟩ := x
    cases o with
    | nrm =>
      simp only [Rk, round2L]
      try rfl
    | exi i => rfl
    | ret => rfl
theorem Rk_rb {l : Nat} {r : Rec} (b : C) (k : List Fm) (e : Env) (s : St) (h : lget s.lps l = some r) (hr : r.st = .ready) :
    Rk ro K .nrm (.rb l b :: k) e s = M ro K b [.rnd l] e { s with lps := lset s.lps l { r with st := .busy } } := by
  simp only [Rk, h, hr]
  unfold M
  cases h2 : codeL ro K b e { s with lps := lset s.lps l { r with st := .busy } } with
  | none => rfl
  | some x => rfl
theorem Rk_rnd {l : Nat} {r : Rec} (o : Out) (k : List Fm) (e : Env) (s : St) (h : lget s.lps l = some r) :
    Rk ro K o (.rnd l :: k) e s = some (.bool o.isNrm, { s with lps := lset s.lps l { r with st := if o.isNrm then .ready else .done, pend := o } }) := by
  cases o <;> simp only [Rk, h]
structure WF (s : St) : Prop where
  fl : s.fl ≤ s.n
  lf : s.lf ≤ s.nl
  pr : ∀ k ∈ s.pr, k < s.n
  len : s.rows.length = s.n
  lk : ∀ p ∈ s.lps, p.1 < s.nl
structure Ex (s s' : St) : Prop where
  n : s.n ≤ s'.n
  nl : s.nl ≤ s'.nl
  row : ∀ k, k < s.n → s'.get k = s.get k
  lp : s'.lps = s.lps
  fl : s'.fl = s.fl
  lf : s'.lf = s.lf
  pr : s'.pr = s.pr
  len : s'.rows.length = s'.n
structure Exd (D : Nat → Prop) (s s' : St) : Prop where
  n : s.n ≤ s'.n
  nl : s.nl ≤ s'.nl
  row : ∀ k, k < s.n → ¬ D k → s'.get k = s.get k
  lp : s'.lps = s.lps
  fl : s'.fl = s.fl
  lf : s'.lf = s.lf
  pr : s'.pr = s.pr
  len : s'.rows.length = s'.n
theorem Ex.d {s s' : St} (h : Ex s s') (D : Nat → Prop) : Exd D s s' := ⟨h.n, h.nl, fun k hk _ => h.row k hk, h.lp, h.fl, h.lf, h.pr, h.len⟩
theorem Exd.ex {D : Nat → Prop} {s0 s s' : St} (h0 : Ex s0 s) (h : Exd D s s') (hD : ∀ k, D k → s0.n ≤ k) : Ex s0 s' :=
  ⟨Nat.le_trans h0.n h.n, Nat.le_trans h0.nl h.nl, fun k hk => (h.row k (Nat.lt_of_lt_of_le hk h0.n) (fun hd => Nat.lt_irrefl _ (Nat.lt_of_lt_of_le hk (hD k hd)))).trans (h0.row k hk), h.lp.trans h0.lp, h.fl.trans h0.fl, h.lf.trans h0.lf, h.pr.trans h0.pr, h.len⟩
theorem Exd.trans {D D' E : Nat → Prop} {s s1 s2 : St} (h : Exd D s s1) (k : Exd D' s1 s2) (h1 : ∀ j, j < s.n → D j → E j) (h2 : ∀ j, j < s.n → D' j → E j) : Exd E s s2 :=
  ⟨Nat.le_trans h.n k.n, Nat.le_trans h.nl k.nl, fun i hi hE => (k.row i (Nat.lt_of_lt_of_le hi h.n) (fun hd => hE (h2 i hi hd))).trans (h.row i hi (fun hd => hE (h1 i hi hd))), k.lp.trans h.lp, k.fl.trans h.fl, k.lf.trans h.lf, k.pr.trans h.pr, k.len⟩
theorem Exd.wf {D : Nat → Prop} {s s' : St} (h : Exd D s s') (w : WF s) : WF s' :=
  ⟨by rw [h.fl]; exact Nat.le_trans w.fl h.n, by rw [h.lf]; exact Nat.le_trans w.lf h.nl, by rw [h.pr]; exact fun k hk => Nat.lt_of_lt_of_le (w.pr k hk) h.n, h.len, by rw [h.lp]; exact fun p hp => Nat.lt_of_lt_of_le (w.lk p hp) h.nl⟩
theorem Exd.mono {D E : Nat → Prop} {s s' : St} (h : Exd D s s') (hD : ∀ j, j < s.n → D j → E j) : Exd E s s' := ⟨h.n, h.nl, fun k hk hE => h.row k hk (fun hd => hE (hD k hk hd)), h.lp, h.fl, h.lf, h.pr, h.len⟩
theorem Exd.may {D : Nat → Prop} {s s' : St} (h : Exd D s s') (k : Nat) : s'.may k = s.may k := by simp [St.may, h.fl, h.pr]
theorem Ex.refl {s : St} (h : WF s) : Ex s s := ⟨Nat.le_refl _, Nat.le_refl _, fun _ _ => rfl, rfl, rfl, rfl, rfl, h.len⟩
theorem Ex.trans {s s1 s2 : St} (h : Ex s s1) (k : Ex s1 s2) : Ex s s2 :=
  ⟨Nat.le_trans h.n k.n, Nat.le_trans h.nl k.nl, fun i hi => (k.row i (Nat.lt_of_lt_of_le hi h.n)).trans (h.row i hi), k.lp.trans h.lp, k.fl.trans h.fl, k.lf.trans h.lf, k.pr.trans h.pr, k.len⟩
theorem Ex.wf {s s' : St} (h : Ex s s') (w : WF s) : WF s' :=
  ⟨by rw [h.fl]; exact Nat.le_trans w.fl h.n, by rw [h.lf]; exact Nat.le_trans w.lf h.nl, by rw [h.pr]; exact fun k hk => Nat.lt_of_lt_of_le (w.pr k hk) h.n, h.len, by rw [h.lp]; exact fun p hp => Nat.lt_of_lt_of_le (w.lk p hp) h.nl⟩
def qs (s : St) : St := { s with fl := s.n, lf := s.nl }
theorem WF.may {s : St} (h : WF s) {k : Nat} (hk : s.n ≤ k) : s.may k = true := by
  simp only [St.may, Bool.and_eq_true, decide_eq_true_eq, Bool.not_eq_eq_eq_not, Bool.not_true, List.contains_eq_mem, decide_eq_false_iff_not]
  exact ⟨Nat.le_trans h.fl hk, fun hh => by have := h.pr _ hh; omega⟩
theorem Exd.put {s : St} {k : Nat} (w : WF s) {r : List Value} (hk : s.get k = some r) (x : Option (List Value)) : Exd (· = k) s (s.put k x) :=
  ⟨Nat.le_refl _, Nat.le_refl _, fun j hj hjk => St.get_put_other _ _ hjk (St.get_lt hk), rfl, rfl, rfl, rfl, by simp [St.put, w.len]⟩
theorem WF.q {s : St} (h : WF s) : WF (qs s) := ⟨Nat.le_refl _, Nat.le_refl _, h.pr, h.len, h.lk⟩
theorem ldel_none : ∀ (l : List (Nat × Rec)) (n : Nat), (∀ p ∈ l, p.1 < n) → ldel l n = l
  | [], _, _ => rfl
  | (k, r) :: l, n, h => by
    have h1 := h (k, r) (by simp)
    have h2 : ¬ k = n := by simp only at h1; omega
    simp only [ldel, if_neg h2]
    rw [ldel_none l n (fun p hp => h p (by simp [hp]))]
theorem Ex.unq {s s' : St} (h : Ex (qs s) s') : Ex s { s' with fl := s.fl, lf := s.lf } := ⟨h.n, h.nl, h.row, h.lp, rfl, rfl, h.pr, h.len⟩
def Pl (v : Value) : Prop := ∀ n, clean n v = true
theorem callq {f : Value} {as : List Value} {pr : Option (List Nat)} {s s' : St} {v : Value} (h : K f as (qs s) = some (v, s')) (hc : clean s.n v = true) : callK K f as true pr s = some (v, s) := by
  simp only [callK, if_true, quiet]
  rw [show ({ s with fl := s.n, lf := s.nl } : St) = qs s from rfl, h]
  simp [hc]
theorem callq_keep {f : Value} {as : List Value} {pr : Option (List Nat)} {s s' : St} {v : Value} (h : K f as (qs s) = some (v, s')) (hc : clean s.n v = false) : callK K f as true pr s = some (v, { s' with fl := s.fl, lf := s.lf }) := by
  simp only [callK, if_true, quiet]
  rw [show ({ s with fl := s.n, lf := s.nl } : St) = qs s from rfl, h]
  simp [hc]
def Fv (K : H) (f : Nat) (as : List Value) (v : Value) : Prop := ∀ s, WF s → ∃ s', K (.func (.func f) #[] #[]) as s = some (v, s')
theorem Fv.q {f : Nat} {as : List Value} {v : Value} (h : Fv K f as v) (hp : Pl v) {s : St} (hs : WF s) {pr : Option (List Nat)} : callK K (.func (.func f) #[] #[]) as true pr s = some (v, s) := by
  obtain ⟨s', h'⟩ := h _ hs.q
  exact callq h' (hp _)
def S (s : St) (l : List (Option (List Value))) : St := { s with n := s.n + l.length, rows := l.reverse ++ s.rows }
theorem push_eq (s : St) (r : List Value) : s.push r = S s [some r] := by simp [S, St.push]
theorem S_push (s : St) (l : List (Option (List Value))) (r : List Value) : (S s l).push r = S s (l ++ [some r]) := by
  simp [S, St.push]; omega
theorem S_S (s : St) (l m : List (Option (List Value))) : S (S s l) m = S s (l ++ m) := by
  simp [S]; omega
theorem S_n (s : St) (l : List (Option (List Value))) : (S s l).n = s.n + l.length := rfl
theorem S_nl (s : St) (l : List (Option (List Value))) : (S s l).nl = s.nl := rfl
theorem S_fl (s : St) (l : List (Option (List Value))) : (S s l).fl = s.fl := rfl
theorem S_pr (s : St) (l : List (Option (List Value))) : (S s l).pr = s.pr := rfl
theorem S_lps (s : St) (l : List (Option (List Value))) : (S s l).lps = s.lps := rfl
theorem S_get (s : St) (l : List (Option (List Value))) (i : Nat) : (S s l).get (s.n + i) = l[i]?.join := by
  unfold St.get S
  simp only
  by_cases h : i < l.length
  · rw [if_pos (by omega), show s.n + l.length - 1 - (s.n + i) = l.length - 1 - i by omega, List.getElem?_append_left (by simp; omega), List.getElem?_reverse (by omega), show l.length - 1 - (l.length - 1 - i) = i by omega]
    simp [h, Option.join]
  · rw [if_neg (by omega), List.getElem?_eq_none (by omega)]; rfl
theorem S_get0 (s : St) (l : List (Option (List Value))) : (S s l).get s.n = l[0]?.join := S_get s l 0
theorem S_old (s : St) (l : List (Option (List Value))) {k : Nat} (h : k < s.n) : (S s l).get k = s.get k := by
  unfold St.get S
  simp only
  rw [if_pos (by omega), if_pos h, List.getElem?_append_right (by simp; omega)]
  simp only [List.length_reverse]
  rw [show s.n + l.length - 1 - k - l.length = s.n - 1 - k by omega]
theorem S_put (s : St) (l : List (Option (List Value))) {i : Nat} (x : Option (List Value)) (h : i < l.length) : (S s l).put (s.n + i) x = S s (l.set i x) := by
  unfold St.put S
  simp
  rw [show s.n + l.length - 1 - (s.n + i) = l.length - 1 - i by omega, List.set_append_left _ _ (by simp; omega)]
  congr 1
  apply List.ext_getElem
  · simp
  · intro j h1 h2
    simp only [List.length_set, List.length_reverse] at h1
    rw [List.getElem_set, List.getElem_reverse, List.getElem_reverse, List.getElem_set]
    split
    · rename_i hj; rw [if_pos (by simp; omega)]
    · rename_i hj; rw [if_neg (by simp; omega)]; simp
theorem S_put0 (s : St) (l : List (Option (List Value))) (x : Option (List Value)) (h : 0 < l.length) : (S s l).put s.n x = S s (l.set 0 x) := S_put s l x h
theorem S_may {s : St} (hs : WF s) (l : List (Option (List Value))) (i : Nat) : (S s l).may (s.n + i) = true := by
  simp only [St.may, S_fl, S_pr, Bool.and_eq_true, decide_eq_true_eq, Bool.not_eq_eq_eq_not, Bool.not_true, List.contains_eq_mem, decide_eq_false_iff_not]
  exact ⟨decide_eq_true (Nat.le_trans hs.fl (Nat.le_add_right _ _)), fun h => by have := hs.pr _ h; omega⟩
theorem S_may0 {s : St} (hs : WF s) (l : List (Option (List Value))) : (S s l).may s.n = true := S_may hs l 0
theorem S_ex {s : St} (hs : WF s) (l : List (Option (List Value))) : Ex s (S s l) :=
  ⟨by simp [S_n], Nat.le_refl _, fun k hk => S_old s l hk, rfl, rfl, rfl, rfl, by simp [S, hs.len]; omega⟩
theorem S_wf {s : St} (hs : WF s) (l : List (Option (List Value))) : WF (S s l) := (S_ex hs l).wf hs
end
end Go.Proofs.YtakdnpafdadblaaGreat.EV.W
namespace Go.Proofs.YtakdnpafdadblaaGreat.EV.W
open Go
def v64 (n : UInt64) : Value := .int .u64 n.toNat
def v8 (n : UInt8) : Value := .int .u8 n.toNat
abbrev vI (n : Int) : Value := .int .i64 n
theorem lit64 (n : Nat) (h : n < 18446744073709551616) : Value.int .u64 (no_index (OfNat.ofNat n : Int)) = v64 (OfNat.ofNat n) := by
  have : (OfNat.ofNat n : UInt64).toNat = n := by
    show (UInt64.ofNat n).toNat = n
    rw [UInt64.toNat_ofNat']; omega
  rw [v64, this]; rfl
theorem lit8 (n : Nat) (h : n < 256) : Value.int .u8 (no_index (OfNat.ofNat n : Int)) = v8 (OfNat.ofNat n) := by
  have : (OfNat.ofNat n : UInt8).toNat = n := by
    show (UInt8.ofNat n).toNat = n
    rw [UInt8.toNat_ofNat']; omega
  rw [v8, this]; rfl
theorem cells_int (k : IntKind) (n : Int) : cells (.int k n) = [.int k n] := rfl
theorem plainT_int (k : IntKind) (n : Int) : plainT (.int k n) = true := rfl
theorem cells_bool (b : Bool) : cells (.bool b) = [.bool b] := rfl
theorem plainT_bool (b : Bool) : plainT (.bool b) = true := rfl
theorem cells_str (b : ByteArray) : cells (.string b) = [.string b] := rfl
theorem plainT_str (b : ByteArray) : plainT (.string b) = true := rfl
theorem cells_sl (a : Option Addr) (n c : Nat) : cells (.slice a n c) = [.slice a n c] := rfl
theorem plainT_sl (a : Option Addr) (n c : Nat) : plainT (.slice a n c) = true := rfl
theorem cells_ptr (a : Option Addr) : cells (.pointer a) = [.pointer a] := rfl
theorem plainT_ptr (a : Option Addr) : plainT (.pointer a) = true := rfl
theorem cells_fn (f : Fn) (a b : Array Value) : cells (.func f a b) = [.func f a b] := rfl
theorem plainT_fn (f : Fn) (a b : Array Value) : plainT (.func f a b) = true := rfl
theorem cells_nilf  : cells (.nilFunc) = [.nilFunc] := rfl
theorem plainT_nilf  : plainT (.nilFunc) = true := rfl
theorem cells_agg (cs : Array Value) : cells (.agg cs) = cs.toList := rfl
theorem plainT_agg (cs : Array Value) : plainT (.agg cs) = true := rfl
theorem cells_v64 (x : UInt64) : cells (v64 x) = [v64 x] := rfl
theorem cells_v8 (x : UInt8) : cells (v8 x) = [v8 x] := rfl
theorem plainT_v64 (x : UInt64) : plainT (v64 x) = true := rfl
theorem plainT_v8 (x : UInt8) : plainT (v8 x) = true := rfl
theorem v64_inj (x y : UInt64) : v64 x = v64 y ↔ x = y := by
  unfold v64; simp only [Value.int.injEq, true_and, Int.natCast_inj]; exact ⟨fun h => UInt64.toNat.inj h, fun h => by rw [h]⟩
theorem v8_inj (x y : UInt8) : v8 x = v8 y ↔ x = y := by
  unfold v8; simp only [Value.int.injEq, true_and, Int.natCast_inj]; exact ⟨fun h => UInt8.toNat.inj h, fun h => by rw [h]⟩
section
variable {ro : Addr → Option Value} {K : H} (e : Env) (s : St)
def bindV (x : Option Value) (s : St) : Option (Value × St) :=
  match x with
  | some v => some (v, s)
  | none => none
theorem bindV_some (v : Value) : bindV (some v) s = some (v, s) := rfl
theorem bindV_ite {c : Prop} [Decidable c] (x y : Option Value) : bindV (if c then x else y) s = if c then bindV x s else bindV y s := by split <;> rfl
def binO (op : BinOp) : Option Value → Option Value → Option Value
  | some a, some b => binV op a b
  | _, _ => none
def pickO (c a b : Option Value) : Option Value :=
  match c with
  | some (.bool t) => if t = true then a else b
  | _ => none
def cvO (k : IntKind) : Option Value → Option Value
  | some (.int _ n) => some (.int k (k.wrap n))
  | _ => none
def exO (i : Nat) : Option Value → Option Value
  | some (.tuple vs) => vs.toList[i]?
  | _ => none
def extO (nm : Nat) : Option (List Value) → Option Value
  | some vs => if nm = 0 then add64 vs else sub64 vs
  | none => none
theorem op1_mv (x : Operand) : op1 ro K (.mv x) e s = bindV (opd e x) s := by simp only [op1]; rfl
theorem op1_bin (op : BinOp) (x y : Operand) : op1 ro K (.bin op x y) e s = bindV (binO op (opd e x) (opd e y)) s := by
  simp only [op1]
  cases opd e x with
  | none => rfl
  | some a =>
    cases opd e y with
    | none => rfl
    | some b => rfl
theorem op1_pick (c a b : Operand) : op1 ro K (.pick c a b) e s = bindV (pickO (opd e c) (opd e a) (opd e b)) s := by
  simp only [op1]
  cases opd e c with
  | none => rfl
  | some v =>
    cases v with
    | bool t => cases t <;> rfl
    | _ => rfl
theorem op1_cvi (k : IntKind) (x : Operand) : op1 ro K (.cvi k x) e s = bindV (cvO k (opd e x)) s := by
  simp only [op1]
  cases opd e x with
  | none => rfl
  | some v => cases v <;> rfl
theorem op1_ex (x : Operand) (i : Nat) : op1 ro K (.ex x i) e s = bindV (exO i (opd e x)) s := by
  simp only [op1]
  cases opd e x with
  | none => rfl
  | some v => cases v <;> rfl
theorem op1_ext (nm : Nat) (as : List Operand) : op1 ro K (.ext nm as) e s = bindV (extO nm (opds e as)) s := by
  simp only [op1]
  cases opds e as with
  | none => rfl
  | some v => rfl
def invO : Option Value → Option Value
  | some (.int k n) => intBin .xor k (if k.signed then -1 else k.max) n
  | _ => none
theorem op1_inv (x : Operand) : op1 ro K (.inv x) e s = bindV (invO (opd e x)) s := by
  simp only [op1]
  cases opd e x with
  | none => rfl
  | some v => cases v <;> rfl
def ixsO : Option Value → Option Value → Option Value
  | some (.string b), some (.int _ k) => if 0 ≤ k then (match b[k.toNat]? with
    | some c => some (v8 c)
    | none => none) else none
  | _, _ => none
theorem op1_ixs (x i : Operand) : op1 ro K (.ixs x i) e s = bindV (ixsO (opd e x) (opd e i)) s := by
  simp only [op1]
  cases opd e x with
  | none => rfl
  | some v =>
    cases v with
    | string b =>
      cases opd e i with
      | none => rfl
      | some u =>
        cases u with
        | int k n =>
          simp only [ixsO]
          by_cases h : 0 ≤ n
          · rw [if_pos h, if_pos h]
            cases b[n.toNat]? <;> rfl
          · rw [if_neg h, if_neg h]; rfl
        | _ => rfl
    | _ => rfl
theorem ixsO_some (b : ByteArray) (k : IntKind) (n : Int) : ixsO (some (.string b)) (some (.int k n)) = if 0 ≤ n then (match b[n.toNat]? with
    | some c => some (v8 c)
    | none => none) else none := rfl
theorem op1_apps (x y : Operand) : op1 ro K (.apps x y) e s = match opd e x, opd e y with
    | some (.slice a n c), some (.string b) => appendTo s 1 a n c (b.data.toList.map v8) b.size
    | _, _ => none := by
  simp only [op1]; rfl
theorem eqCells_64 (x y : UInt64) (l m : List Value) : eqCells (v64 x :: l) (v64 y :: m) = match eqCells l m with | some r => some (decide (x = y) && r) | none => none := by
  simp only [v64, eqCells, if_true]
  have : (((x.toNat : Int) == (y.toNat : Int))) = decide (x = y) := by
    by_cases h : x = y
    · subst h; simp
    · have : x.toNat ≠ y.toNat := fun hh => h (UInt64.toNat.inj hh)
      simp [h]; omega
  rw [this]
  cases eqCells l m <;> rfl
theorem eqCells_I (k : IntKind) (x y : Int) (l m : List Value) : eqCells (.int k x :: l) (.int k y :: m) = match eqCells l m with | some r => some (decide (x = y) && r) | none => none := by
  simp only [eqCells, if_true]
  cases eqCells l m <;> rfl
theorem eqCells_nil : eqCells [] [] = some true := rfl
theorem binO_some (op : BinOp) (a b : Value) : binO op (some a) (some b) = binV op a b := rfl
theorem exO_tuple (i : Nat) (vs : Array Value) : exO i (some (.tuple vs)) = vs.toList[i]? := rfl
theorem extO_0 (vs : List Value) : extO 0 (some vs) = add64 vs := rfl
theorem extO_1 (vs : List Value) : extO 1 (some vs) = sub64 vs := rfl
theorem pickO_bool (t : Bool) (a b : Option Value) : pickO (some (.bool t)) a b = if t = true then a else b := rfl
theorem gd_bool (c b : Bool) : gd (some (.bool c)) b = some (c == b) := rfl
theorem gd_tup (vs : Array Value) (b : Bool) : gd (some (.tuple vs)) b = some false := rfl
end
theorem wU (n : Int) : IntKind.u64.wrap n = n % 18446744073709551616 := rfl
theorem w8 (n : Int) : IntKind.u8.wrap n = n % 256 := rfl
theorem wI0 (n : Int) : IntKind.i64.wrap n = if n % 18446744073709551616 ≥ 9223372036854775808 then n % 18446744073709551616 - 18446744073709551616 else n % 18446744073709551616 := by
  show (if (true && decide (n % 18446744073709551616 ≥ 9223372036854775808)) = true then _ else _) = _
  simp only [Bool.true_and, decide_eq_true_eq]
  rfl
theorem wI (n : Int) (h1 : -9223372036854775808 ≤ n) (h2 : n < 9223372036854775808) : IntKind.i64.wrap n = n := by
  rw [wI0]; split <;> omega
theorem bvU (x : UInt64) : BitVec.ofInt 64 (x.toNat : Int) = x.toBitVec := by
  rw [BitVec.ofInt_natCast]
  apply BitVec.eq_of_toNat_eq
  rw [BitVec.toNat_ofNat, Nat.mod_eq_of_lt x.toNat_lt]; rfl
theorem wUc (x : UInt64) : IntKind.u64.wrap (x.toNat : Int) = (x.toNat : Int) := by
  rw [wU]; have := x.toNat_lt; omega
section
variable (x y : UInt64)
theorem b_add : binV .add (v64 x) (v64 y) = some (v64 (x + y)) := by
  simp only [v64, binV, if_true, intBin, wU, UInt64.toNat_add]; congr 2
theorem b_sub : binV .sub (v64 x) (v64 y) = some (v64 (x - y)) := by
  simp only [v64, binV, if_true, intBin, wU, UInt64.toNat_sub]; congr 2
  have := x.toNat_lt; have := y.toNat_lt; omega
theorem b_mul : binV .mul (v64 x) (v64 y) = some (v64 (x * y)) := by
  simp only [v64, binV, if_true, intBin, wU, UInt64.toNat_mul]; congr 2
theorem b_xor : binV .xor (v64 x) (v64 y) = some (v64 (x ^^^ y)) := by
  simp only [v64, binV, if_true, intBin, IntKind.bits, bvU]; congr 2; exact wUc (x ^^^ y)
theorem b_or : binV .or (v64 x) (v64 y) = some (v64 (x ||| y)) := by
  simp only [v64, binV, if_true, intBin, IntKind.bits, bvU]; congr 2; exact wUc (x ||| y)
theorem b_and : binV .and (v64 x) (v64 y) = some (v64 (x &&& y)) := by
  simp only [v64, binV, if_true, intBin, IntKind.bits, bvU]; congr 2; exact wUc (x &&& y)
theorem b_lss : binV .lss (v64 x) (v64 y) = some (.bool (decide (x < y))) := by
  simp only [v64, binV, if_true, intBin, UInt64.lt_iff_toNat_lt]; congr 3; exact propext Int.ofNat_lt
theorem b_leq : binV .leq (v64 x) (v64 y) = some (.bool (decide (x ≤ y))) := by
  simp only [v64, binV, if_true, intBin, UInt64.le_iff_toNat_le]; congr 3; exact propext Int.ofNat_le
theorem b_gtr : binV .gtr (v64 x) (v64 y) = some (.bool (decide (y < x))) := by
  simp only [v64, binV, if_true, intBin, UInt64.lt_iff_toNat_lt]; congr 3; exact propext Int.ofNat_lt
theorem b_geq : binV .geq (v64 x) (v64 y) = some (.bool (decide (y ≤ x))) := by
  simp only [v64, binV, if_true, intBin, UInt64.le_iff_toNat_le]; congr 3; exact propext Int.ofNat_le
theorem b_eql : binV .eql (v64 x) (v64 y) = some (.bool (decide (x = y))) := by
  simp only [v64, binV, if_true, intBin]; congr 2
  by_cases h : x = y
  · subst h; simp
  · have : x.toNat ≠ y.toNat := fun hh => h (UInt64.toNat.inj hh)
    simp [h]; omega
theorem b_neq : binV .neq (v64 x) (v64 y) = some (.bool (decide (x ≠ y))) := by
  simp only [v64, binV, if_true, intBin]; congr 2
  by_cases h : x = y
  · subst h; simp
  · have : x.toNat ≠ y.toNat := fun hh => h (UInt64.toNat.inj hh)
    simp [h]; omega
theorem fdivN (a b : Nat) : ((a : Int).fdiv (b : Int)) = ((a / b : Nat) : Int) := by
  cases b with
  | zero => simp
  | succ b => rw [Int.fdiv_eq_ediv_of_nonneg _ (by omega)]; rfl
def shlU (x : UInt64) (n : Nat) : UInt64 := UInt64.ofNat (x.toNat * 2 ^ (min n 64))
def shrU (x : UInt64) (n : Nat) : UInt64 := UInt64.ofNat (x.toNat / 2 ^ (min n 64))
theorem shrU_nat (n : Nat) : (shrU x n).toNat = x.toNat / 2 ^ (min n 64) := by
  unfold shrU; rw [UInt64.toNat_ofNat']
  exact Nat.mod_eq_of_lt (Nat.lt_of_le_of_lt (Nat.div_le_self _ _) x.toNat_lt)
theorem shlU_nat (n : Nat) : (shlU x n).toNat = x.toNat * 2 ^ (min n 64) % 18446744073709551616 := by
  unfold shlU; rw [UInt64.toNat_ofNat']
theorem b_shl (k : IntKind) (n : Int) (h : 0 ≤ n) : binV .shl (v64 x) (.int k n) = some (v64 (shlU x n.toNat)) := by
  simp only [v64, binV, if_neg (Int.not_lt.2 h), shlU_nat, IntKind.bits, wU]
  congr 2
theorem b_shr (k : IntKind) (n : Int) (h : 0 ≤ n) : binV .shr (v64 x) (.int k n) = some (v64 (shrU x n.toNat)) := by
  simp only [v64, binV, if_neg (Int.not_lt.2 h), shrU_nat, IntKind.bits]
  rw [show ((2 : Int) ^ min n.toNat 64) = ((2 ^ min n.toNat 64 : Nat) : Int) by norm_cast, fdivN]
theorem b_shl' : binV .shl (v64 x) (v64 y) = some (v64 (shlU x y.toNat)) := by
  have := b_shl x .u64 y.toNat (by omega)
  simpa [v64] using this
theorem b_shr' : binV .shr (v64 x) (v64 y) = some (v64 (shrU x y.toNat)) := by
  have := b_shr x .u64 y.toNat (by omega)
  simpa [v64] using this
end
theorem cv_8_64 (x : UInt8) : cvO .u64 (some (v8 x)) = some (v64 x.toUInt64) := by
  simp only [v8, v64, cvO, wU]; congr 2
  have := x.toNat_lt; rw [show x.toUInt64.toNat = x.toNat from rfl]; omega
theorem cv_64_8 (x : UInt64) : cvO .u8 (some (v64 x)) = some (v8 x.toUInt8) := by
  simp only [v8, v64, cvO, w8]; congr 2
theorem cv_8_I (x : UInt8) : cvO .i64 (some (v8 x)) = some (vI x.toNat) := by
  simp only [v8, cvO]; congr 2
  have := x.toNat_lt; rw [wI _ (by omega) (by omega)]
theorem cv_I_8 (n : Int) : cvO .u8 (some (vI n)) = some (v8 (UInt8.ofNat (n % 256).toNat)) := by
  simp only [v8, cvO, w8, UInt8.toNat_ofNat']; congr 2; omega
theorem cv_I_64 (n : Int) : cvO .u64 (some (vI n)) = some (v64 (UInt64.ofNat (n % 18446744073709551616).toNat)) := by
  simp only [v64, cvO, wU, UInt64.toNat_ofNat']; congr 2; omega
theorem cv_64_I (x : UInt64) (h : x.toNat < 9223372036854775808) : cvO .i64 (some (v64 x)) = some (vI x.toNat) := by
  simp only [v64, cvO]; congr 2; rw [wI _ (by omega) (by omega)]
theorem shift_mk (b o : Nat) (x : Option Nat) (n : Nat) : shift ⟨b, o, x⟩ n = ⟨b, o + n, x⟩ := rfl
theorem shift_shift (b : Addr) (x y : Nat) : shift (shift b x) y = shift b (x + y) := by simp [shift, Nat.add_assoc]
theorem shift_zero (b : Addr) : shift b 0 = b := by simp [shift]
theorem rdAt_own {ro : Addr → Option Value} (s : St) (k o x n : Nat) : rdAt ro s ⟨k, o, some x⟩ n = match s.get k with | some r => cut r o n | none => none := rfl
theorem ixsO_8 (b : ByteArray) (c : UInt8) : ixsO (some (.string b)) (some (v8 c)) = (b[c.toNat]?).map v8 := by
  rw [v8, ixsO_some, if_pos (by omega), Int.toNat_natCast]
  cases b[c.toNat]? <;> rfl
theorem ixsO_s (b : ByteArray) (k : IntKind) (n : Nat) : ixsO (some (.string b)) (some (.int k (n : Int))) = (b[n]?).map v8 := by
  rw [ixsO_some, if_pos (by omega), Int.toNat_natCast]
  cases b[n]? <;> rfl
section
variable (a b : Int)
theorem i_add : binV .add (vI a) (vI b) = some (vI (IntKind.i64.wrap (a + b))) := rfl
theorem i_sub : binV .sub (vI a) (vI b) = some (vI (IntKind.i64.wrap (a - b))) := rfl
theorem i_mul : binV .mul (vI a) (vI b) = some (vI (IntKind.i64.wrap (a * b))) := rfl
theorem i_quo : binV .quo (vI a) (vI b) = if b = 0 then none else some (vI (IntKind.i64.wrap (a.tdiv b))) := rfl
theorem i_rem : binV .rem (vI a) (vI b) = if b = 0 then none else some (vI (a.tmod b)) := rfl
theorem i_eql : binV .eql (vI a) (vI b) = some (.bool (decide (a = b))) := rfl
theorem i_neq : binV .neq (vI a) (vI b) = some (.bool (decide (a ≠ b))) := by
  show some (Value.bool (!decide (a = b))) = _
  simp
theorem i_lss : binV .lss (vI a) (vI b) = some (.bool (decide (a < b))) := rfl
theorem i_leq : binV .leq (vI a) (vI b) = some (.bool (decide (a ≤ b))) := rfl
theorem i_gtr : binV .gtr (vI a) (vI b) = some (.bool (decide (b < a))) := rfl
theorem i_geq : binV .geq (vI a) (vI b) = some (.bool (decide (b ≤ a))) := rfl
theorem i_shl (k : IntKind) : binV .shl (vI a) (.int k b) = if b < 0 then none else some (vI (IntKind.i64.wrap (a * 2 ^ (min b.toNat 64)))) := rfl
theorem i_shr (k : IntKind) : binV .shr (vI a) (.int k b) = if b < 0 then none else some (vI (a.fdiv (2 ^ (min b.toNat 64)))) := rfl
theorem i_shl' (y : UInt64) : binV .shl (vI a) (v64 y) = some (vI (IntKind.i64.wrap (a * 2 ^ (min y.toNat 64)))) := by
  rw [v64, i_shl, if_neg (by omega)]; rfl
theorem i_shr' (y : UInt64) : binV .shr (vI a) (v64 y) = some (vI (a.fdiv (2 ^ (min y.toNat 64)))) := by
  rw [v64, i_shr, if_neg (by omega)]; rfl
theorem s_bin (op : BinOp) (a b : ByteArray) : binV op (.string a) (.string b) = strBin op a b := by cases op <;> rfl
end
attribute [simp] i_add i_sub i_mul i_quo i_rem i_eql i_neq i_lss i_leq i_gtr i_geq i_shl i_shr i_shl' i_shr' s_bin
attribute [simp] M_nop M_exi M_ret M_seq M_blk M_reg M_cnd Rk_sq Rk_sq_exi Rk_sq_ret Rk_bk Rk_bk_exi Rk_bk_ret Rk_lp Rk_lp_exi Rk_lp_ret Rk_fn Rk_fn_ret O_nil O_cons O_cons_g OC_some OC_none OC_ite
attribute [simp] op1_mv op1_bin op1_pick op1_cvi op1_ex op1_ext bindV_some bindV_ite binO_some pickO_bool exO_tuple extO_0 extO_1 gd_bool gd_tup
attribute [simp] cells_int plainT_int cells_bool plainT_bool cells_str plainT_str cells_sl plainT_sl cells_ptr plainT_ptr cells_fn plainT_fn cells_nilf plainT_nilf cells_agg plainT_agg
attribute [simp] cells_v64 cells_v8 plainT_v64 plainT_v8 v64_inj v8_inj lit64 lit8 cv_8_64 cv_64_8 cv_8_I cv_I_8 cv_I_64 cv_64_I
attribute [simp] b_add b_sub b_mul b_xor b_or b_and b_lss b_leq b_gtr b_geq b_eql b_neq b_shl b_shr b_shl' b_shr'
attribute [simp] op1.eq_3 op1.eq_4 op1.eq_5 op1.eq_6 op1.eq_7 op1.eq_8 op1.eq_10 op1.eq_11 op1.eq_12 op1.eq_15 op1.eq_16 op1.eq_17 op1.eq_18 op1.eq_19 op1.eq_20 op1.eq_21 op1.eq_22 op1.eq_23 op1.eq_24 op1.eq_25 op1.eq_26 op1.eq_29 op1.eq_30 op1.eq_32 op1.eq_33 op1.eq_34 op1.eq_35 op1.eq_37 op1.eq_38 op1.eq_39 op1_inv op1_ixs op1_apps eqCells_64 eqCells_I eqCells_nil
attribute [simp] opd opds optOpd lk setD keep params ret own results result pack
attribute [simp] push_eq S_push S_S S_n S_nl S_get S_get0 S_put S_put0 S_may S_may0 shift_mk shift_shift cut wr mkAgg apart two idx rdAt_own rowsOf nt isNil ixsO_8
theorem splice_one (r : List Value) (o : Nat) (x : Value) (h : o < r.length) : splice r o [x] = r.set o x := by
  rw [List.set_eq_take_append_cons_drop, if_pos h]; rfl
theorem splice_nil (r : List Value) : splice r 0 [] = r := by simp [splice]
theorem splice_cons (v y : Value) (r x : List Value) : splice (v :: r) 0 (y :: x) = y :: splice r 0 x := by simp [splice]
theorem splice_succ (v : Value) (n : Nat) (r x : List Value) : splice (v :: r) (n + 1) x = v :: splice r n x := by
  simp only [splice, List.take_succ_cons, List.cons_append]
  rw [show n + 1 + x.length = (n + x.length) + 1 by omega, List.drop_succ_cons]
attribute [simp] splice_one splice_nil splice_cons splice_succ fillP
theorem Mb {ro : Addr → Option Value} {K : H} (b c : C) (h : b = c) (k : List Fm) (e : Env) (s : St) : M ro K b k e s = M ro K c k e s := by rw [h]
theorem ex_ite {α β : Type} {c : Prop} [Decidable c] [d : Decidable c] {A B : Option (α × β)} {v w : α} (h1 : c → ∃ s', A = some (v, s')) (h2 : ¬ c → ∃ s', B = some (w, s')) : ∃ s', (if c then A else B) = some (@ite _ c d v w, s') := by
  by_cases h : c
  · simp only [if_pos h]; exact h1 h
  · simp only [if_neg h]; exact h2 h
end Go.Proofs.YtakdnpafdadblaaGreat.EV.W
namespace Go.Proofs.YtakdnpafdadblaaGreat.EV.W
open Go
structure Std (ro : Addr → Option Value) (K : H) : Prop where
  fn : ∀ {f : Nat} {fd : FD}, tb.get f = some fd → ∀ (a c : Array Value) (as : List Value) (s : St), K (.func (.func f) a c) as s = bodyL ro K fd (a.toList ++ as ++ c.toList) s
  yl : ∀ (l : Nat) (a c : Array Value) (as : List Value) (s : St), K (.func (.yield l) a c) as s = roundL ro K l as s
theorem Std.go {ro : Addr → Option Value} {K : H} (h : Std ro K) {f : Nat} {fd : FD} (hf : tb.get f = some fd) {as : List Value} (hl : as.length = fd.np) (s : St) :
    K (.func (.func f) #[] #[]) as s = M ro K fd.body [.fn fd.res] (params 0 as) s := by
  rw [h.fn hf]; simp only [List.nil_append, List.append_nil]; exact bodyL_M s hl
theorem Std.goc {ro : Addr → Option Value} {K : H} (h : Std ro K) {f : Nat} {fd : FD} (hf : tb.get f = some fd) {as : List Value} {c : Array Value} (hl : (as ++ c.toList).length = fd.np) (s : St) :
    K (.func (.func f) #[] c) as s = M ro K fd.body [.fn fd.res] (params 0 (as ++ c.toList)) s := by
  rw [h.fn hf]; simp only [List.nil_append]; exact bodyL_M s hl
abbrev Fp := Nat → Prop
structure Mo (F : Fp) (s : St) (F' : Fp) (s' : St) : Prop where
  n : s.n ≤ s'.n
  row : ∀ j, j < s.n → F j → s'.get j = s.get j ∧ F' j
theorem Mo.refl (F : Fp) (s : St) : Mo F s F s := ⟨Nat.le_refl _, fun _ _ h => ⟨rfl, h⟩⟩
theorem Mo.trans {F F1 F2 : Fp} {s s1 s2 : St} (h : Mo F s F1 s1) (k : Mo F1 s1 F2 s2) : Mo F s F2 s2 :=
  ⟨Nat.le_trans h.n k.n, fun j hj hF => by
    obtain ⟨h1, h2⟩ := h.row j hj hF
    obtain ⟨k1, k2⟩ := k.row j (Nat.lt_of_lt_of_le hj h.n) h2
    exact ⟨k1.trans h1, k2⟩⟩
theorem Mo.weak {F F' : Fp} (s : St) (h : ∀ j, F j → F' j) : Mo F s F' s := ⟨Nat.le_refl _, fun j _ hF => ⟨rfl, h j hF⟩⟩
theorem Ex.mo {s s' : St} (h : Ex s s') (F : Fp) : Mo F s F s' := ⟨h.n, fun j hj hF => ⟨h.row j hj, hF⟩⟩
theorem Mo.q (F : Fp) (s : St) : Mo F s F (qs s) := ⟨Nat.le_refl _, fun _ _ h => ⟨rfl, h⟩⟩
theorem Mo.unq (F : Fp) (s : St) : Mo F (qs s) F s := ⟨Nat.le_refl _, fun _ _ h => ⟨rfl, h⟩⟩
section
variable {ro : Addr → Option Value}
theorem rdAt_mo {F F' : Fp} {s s' : St} {b : Addr} (h : Mo F s F' s') (hb : ∀ x, b.spot = some x → F b.block ∧ b.block < s.n) (n : Nat) : rdAt ro s' b n = rdAt ro s b n := by
  unfold rdAt
  cases hx : b.spot with
  | none => rfl
  | some x =>
    obtain ⟨h1, h2⟩ := hb x hx
    dsimp only
    rw [(h.row _ h2 h1).1]
def RdA (ro : Addr → Option Value) (F : Fp) (s : St) (b : Addr) (cs : List Value) : Prop :=
  (∀ x, b.spot = some x → F b.block ∧ b.block < s.n) ∧ ∀ o m, o + m ≤ cs.length → rdAt ro s (shift b o) m = some ((cs.drop o).take m)
theorem RdA.mo {F F' : Fp} {s s' : St} {b : Addr} {cs : List Value} (h : RdA ro F s b cs) (m : Mo F s F' s') : RdA ro F' s' b cs := by
  refine ⟨fun x hx => ?_, fun o k hk => ?_⟩
  · obtain ⟨h1, h2⟩ := h.1 x hx
    exact ⟨(m.row _ h2 h1).2, Nat.lt_of_lt_of_le h2 m.n⟩
  · rw [← h.2 o k hk]
    exact rdAt_mo (b := shift b o) m (fun x hx => h.1 x hx) k
theorem RdA.sub {F : Fp} {s : St} {b : Addr} {cs : List Value} (h : RdA ro F s b cs) (o m : Nat) (hm : o + m ≤ cs.length) : RdA ro F s (shift b o) ((cs.drop o).take m) := by
  refine ⟨fun x hx => h.1 x hx, fun o' m' h' => ?_⟩
  simp only [List.length_take, List.length_drop] at h'
  rw [shift_shift, h.2 (o + o') m' (by omega), List.drop_take, List.drop_drop, List.take_take]
  congr 2; omega
theorem RdA.own {F : Fp} {s : St} {k : Nat} {r : List Value} (hF : F k) (h : s.get k = some r) (o m : Nat) (ho : o + m ≤ r.length) : RdA ro F s (own k o) ((r.drop o).take m) := by
  refine ⟨fun x hx => ⟨hF, St.get_lt h⟩, fun o' m' h' => ?_⟩
  simp only [List.length_take, List.length_drop] at h'
  simp only [EV.own, shift, rdAt_own, h, cut]
  rw [if_pos (by omega), List.drop_take, List.drop_drop, List.take_take]
  congr 2; omega
structure Sh (α : Type) where
  sz : Nat
  pos : 0 < sz
  R : (Addr → Option Value) → Fp → St → List Value → α → Prop
  len : ∀ {ro F s c x}, R ro F s c x → c.length = sz
  mo : ∀ {ro F F' s s' c x}, R ro F s c x → Mo F s F' s' → R ro F' s' c x
variable {α : Type}
inductive Rows (h : Sh α) (ro : Addr → Option Value) (F : Fp) (s : St) : List Value → List α → Prop
  | nil : Rows h ro F s [] []
  | cons (c cs : List Value) (x : α) (l : List α) (hc : h.R ro F s c x) (hl : Rows h ro F s cs l) : Rows h ro F s (c ++ cs) (x :: l)
variable {h : Sh α} {F F' : Fp} {s s' : St} {cs cs' : List Value} {l l' : List α}
theorem Rows.length (r : Rows h ro F s cs l) : cs.length = l.length * h.sz := by
  induction r with
  | nil => simp
  | cons c cs x l hc _ ih => rw [List.length_append, h.len hc, ih, List.length_cons, Nat.succ_mul]; omega
theorem Rows.mo (r : Rows h ro F s cs l) (m : Mo F s F' s') : Rows h ro F' s' cs l := by
  induction r with
  | nil => exact .nil
  | cons c cs x l hc _ ih => exact .cons _ _ _ _ (h.mo hc m) ih
theorem Rows.append (r : Rows h ro F s cs l) (r' : Rows h ro F s cs' l') : Rows h ro F s (cs ++ cs') (l ++ l') := by
  induction r with
  | nil => exact r'
  | cons c cs x l hc _ ih => rw [List.append_assoc]; exact .cons _ _ _ _ hc ih
theorem Rows.single {c : List Value} {x : α} (hc : h.R ro F s c x) : Rows h ro F s c [x] := by
  have := Rows.cons (h := h) c [] x [] hc .nil
  rwa [List.append_nil] at this
theorem Rows.drop (r : Rows h ro F s cs l) (i : Nat) : Rows h ro F s (cs.drop (i * h.sz)) (l.drop i) := by
  induction r generalizing i with
  | nil => simp; exact .nil
  | cons c cs x l hc hl ih =>
    cases i with
    | zero => simp; exact .cons _ _ _ _ hc hl
    | succ i =>
      have : (i + 1) * h.sz = c.length + i * h.sz := by rw [h.len hc, Nat.succ_mul]; omega
      rw [this, List.drop_append, List.drop_of_length_le (by omega), List.nil_append, show c.length + i * h.sz - c.length = i * h.sz by omega]
      exact ih i
theorem Rows.take (r : Rows h ro F s cs l) (i : Nat) : Rows h ro F s (cs.take (i * h.sz)) (l.take i) := by
  induction r generalizing i with
  | nil => simp; exact .nil
  | cons c cs x l hc hl ih =>
    cases i with
    | zero => simp; exact .nil
    | succ i =>
      have : (i + 1) * h.sz = c.length + i * h.sz := by rw [h.len hc, Nat.succ_mul]; omega
      rw [this, List.take_append, List.take_of_length_le (by omega), show c.length + i * h.sz - c.length = i * h.sz by omega, List.take_succ_cons]
      exact .cons _ _ _ _ hc (ih i)
theorem Rows.at (r : Rows h ro F s cs l) (i : Nat) (hi : i < l.length) : h.R ro F s ((cs.drop (i * h.sz)).take h.sz) l[i] := by
  have h1 := r.drop i
  rw [List.drop_eq_getElem_cons hi] at h1
  generalize hq : cs.drop (i * h.sz) = q at h1
  cases h1 with
  | cons c cs x l hc hl =>
    rw [List.take_append, List.take_of_length_le (by rw [h.len hc]; omega), h.len hc]
    simpa using hc
theorem Rows.set (r : Rows h ro F s cs l) (i : Nat) (hi : i < l.length) {c : List Value} {x : α} (hc : h.R ro F s c x) : Rows h ro F s (cs.take (i * h.sz) ++ (c ++ cs.drop (i * h.sz + c.length))) (l.set i x) := by
  have h1 := r.take i
  have h2 := r.drop (i + 1)
  rw [List.set_eq_take_append_cons_drop, if_pos hi]
  refine h1.append (.cons _ _ _ _ hc ?_)
  rw [h.len hc, show i * h.sz + h.sz = (i + 1) * h.sz by rw [Nat.succ_mul]]
  exact h2
def Sl (h : Sh α) (ro : Addr → Option Value) (F : Fp) (s : St) (v : Value) (l : List α) : Prop :=
  ∃ a c cs, v = .slice a l.length c ∧ Rows h ro F s cs l ∧ (a = none → l = []) ∧ ∀ b, a = some b → RdA ro F s b cs
theorem Sl.mo {v : Value} (r : Sl h ro F s v l) (m : Mo F s F' s') : Sl h ro F' s' v l := by
  obtain ⟨a, c, cs, h1, h2, h3, h4⟩ := r
  exact ⟨a, c, cs, h1, h2.mo m, h3, fun b hb => (h4 b hb).mo m⟩
theorem Sl.nil : Sl h ro F s (.slice none 0 0) ([] : List α) := ⟨none, 0, [], rfl, .nil, fun _ => rfl, fun b hb => by cases hb⟩
theorem Sl.open {v : Value} (r : Sl h ro F s v l) : ∃ a c, v = .slice a l.length c ∧ ∀ i (hi : i < l.length), ∃ b, a = some b ∧ ∃ cs, h.R ro F s cs l[i] ∧ RdA ro F s (shift b (i * h.sz)) cs := by
  obtain ⟨a, c, cs, h1, h2, h3, h4⟩ := r
  refine ⟨a, c, h1, fun i hi => ?_⟩
  cases a with
  | none => have := h3 rfl; subst this; simp at hi
  | some b =>
    refine ⟨b, rfl, _, h2.at i hi, (h4 b rfl).sub _ _ ?_⟩
    rw [h2.length]
    calc i * h.sz + h.sz = (i + 1) * h.sz := by rw [Nat.succ_mul]
      _ ≤ l.length * h.sz := Nat.mul_le_mul_right _ hi
theorem RdA.rd {b : Addr} (r : RdA ro F s b cs) (m : Nat) (hm : m ≤ cs.length) : rdAt ro s b m = some (cs.take m) := by
  have := r.2 0 m (by omega)
  rwa [shift_zero] at this
def Ow (h : Sh α) (ro : Addr → Option Value) (F : Fp) (s : St) (v : Value) (l : List α) : Prop :=
  (v = .slice none 0 0 ∧ l = []) ∨ ∃ k cs, v = .slice (some (own k 0)) l.length h.sz ∧ F k ∧ s.get k = some cs ∧ Rows h ro (fun j => F j ∧ j ≠ k) s cs l
theorem Ow.nil : Ow h ro F s (.slice none 0 0) ([] : List α) := .inl ⟨rfl, rfl⟩
theorem Ow.mo {v : Value} (r : Ow h ro F s v l) (m : Mo F s F' s') : Ow h ro F' s' v l := by
  rcases r with r | ⟨k, cs, h1, h2, h3, h4⟩
  · exact .inl r
  · obtain ⟨m1, m2⟩ := m.row k (St.get_lt h3) h2
    refine .inr ⟨k, cs, h1, m2, m1.trans h3, h4.mo ⟨m.n, fun j hj hF => ?_⟩⟩
    obtain ⟨q1, q2⟩ := m.row j hj hF.1
    exact ⟨q1, q2, hF.2⟩
theorem Ow.sl {v : Value} (r : Ow h ro F s v l) : Sl h ro F s v l := by
  rcases r with ⟨rfl, rfl⟩ | ⟨k, cs, rfl, h2, h3, h4⟩
  · exact .nil
  · refine ⟨some (EV.own k 0), h.sz, cs, rfl, h4.mo (Mo.weak _ fun j hj => hj.1), (fun hh => by cases hh), fun b hb => ?_⟩
    cases hb
    have := RdA.own (ro := ro) (F := F) h2 h3 0 cs.length (by omega)
    simpa using this
abbrev Fresh (n : Nat) : Fp := fun j => n ≤ j
theorem Ow.callq {K : H} {f : Value} {as : List Value} {pr : Option (List Nat)} {v : Value} (hk : K f as (qs s) = some (v, s')) (he : Ex (qs s) s') (r : Ow h ro (Fresh s.n) s' v l) (hs : WF s) :
    ∃ s'', callK K f as true pr s = some (v, s'') ∧ Ex s s'' ∧ Ow h ro (Fresh s.n) s'' v l := by
  rcases r with ⟨rfl, rfl⟩ | ⟨k, cs, rfl, h2, h3, h4⟩
  · exact ⟨s, W.callq hk rfl, Ex.refl hs, .nil⟩
  · refine ⟨_, callq_keep hk ?_, he.unq, .inr ⟨k, cs, rfl, h2, h3, h4.mo ⟨Nat.le_refl _, fun j _ hF => ⟨rfl, hF⟩⟩⟩⟩
    simp only [clean, clean1, clean0, cleanA, EV.own, decide_eq_false_iff_not]
    exact decide_eq_false (Nat.not_lt.2 h2)
theorem Ow.append {s0 : St} {v : Value} {new : List Value} {l' : List α} (hs0 : WF s0) (he : Ex s0 s) (r : Ow h ro (Fresh s0.n) s v l) (hnew : Rows h ro (fun j => s0.n ≤ j ∧ ∀ b, v = .slice (some (own b 0)) l.length h.sz → j ≠ b) s new l') (hl' : 0 < l'.length) (hb : l.length + l'.length ≤ 4294967296) (hz : h.sz ≤ 1024) :
    ∃ a c v' s', v = .slice a l.length c ∧ appendTo s h.sz a l.length c new l'.length = some (v', s') ∧ Ex s0 s' ∧ Ow h ro (Fresh s0.n) s' v' (l ++ l') ∧ s'.n = s.n + 1 ∧ ∀ j, j < s.n → (∀ b, v = .slice (some (own b 0)) l.length h.sz → j ≠ b) → s'.get j = s.get j := by
  have hs := he.wf hs0
  rcases r with ⟨rfl, rfl⟩ | ⟨k, cs, rfl, h2, h3, h4⟩
  · refine ⟨none, 0, .slice (some (EV.own s.n 0)) l'.length h.sz, s.push new, rfl, ?_, ?_, ?_, rfl, fun j hj _ => St.get_push_old _ _ hj⟩
    · unfold appendTo
      rw [if_neg (by simp only [List.length_nil] at hb ⊢; omega), if_neg (by omega), if_pos ⟨rfl, rfl⟩]
    · exact he.trans (by rw [push_eq]; exact S_ex hs _)
    · exact .inr ⟨s.n, new, by simp, he.n, St.get_push_new _ _, hnew.mo ⟨by simp, fun j hj hF => ⟨St.get_push_old _ _ hj, hF.1, by omega⟩⟩⟩
  · have hkn := St.get_lt h3
    have h2' : s0.n ≤ k := h2
    have hp : ∀ j, j < s.n → j ≠ k → ((s.put k none).push (cs ++ new)).get j = s.get j := fun j hj hjk => by
      rw [St.get_push_old _ _ (by simpa using hj), St.get_put_other _ _ hjk hkn]
    refine ⟨some (EV.own k 0), h.sz, .slice (some (EV.own s.n 0)) (l.length + l'.length) h.sz, (s.put k none).push (cs ++ new), rfl, ?_, ?_, ?_, rfl, fun j hj hjk => hp j hj (hjk k rfl)⟩
    · unfold appendTo
      rw [if_neg (by omega), if_neg (by omega), if_neg (by intro hh; have := h.pos; omega)]
      simp only [EV.own]
      have hm : s.may k = true := by
        simp only [St.may, Bool.and_eq_true, decide_eq_true_eq, Bool.not_eq_eq_eq_not, Bool.not_true, List.contains_eq_mem, decide_eq_false_iff_not]
        refine ⟨?_, fun hh => ?_⟩
        · rw [he.fl]; exact Nat.le_trans hs0.fl h2'
        · rw [he.pr] at hh; have := hs0.pr _ hh; omega
      rw [if_pos ⟨hm, trivial⟩, h3]
      simp only [cut]
      rw [if_pos (by rw [h4.length]; omega), List.drop_zero, ← h4.length, List.take_length]
    · refine ⟨by have := he.n; simp; omega, he.nl, fun j hj => ?_, he.lp, he.fl, he.lf, he.pr, by simp [St.push, St.put, hs.len]⟩
      have := he.n
      rw [hp j (by omega) (by omega)]; exact he.row j hj
    · refine .inr ⟨s.n, cs ++ new, by simp, he.n, St.get_push_new (s.put k none) _, Rows.append (h4.mo ⟨by simp, fun j hj hF => ⟨hp j hj hF.2, hF.1, by omega⟩⟩) (hnew.mo ⟨by simp, fun j hj hF => ⟨hp j hj (hF.2 k rfl), hF.1, by omega⟩⟩)⟩
def Dv (v : Value) : Nat → Prop := fun j => ∃ n c, v = .slice (some (own j 0)) n c
theorem Ow.app {v : Value} {new : List Value} {l' : List α} (hs : WF s) (hF : F s.n) (hm : ∀ j, j < s.n → F j → s.may j = true) (r : Ow h ro F s v l) (hnew : Rows h ro (fun j => F j ∧ ¬ Dv v j) s new l') (hl' : 0 < l'.length) (hb : l.length + l'.length ≤ 4294967296) (hz : h.sz ≤ 1024) :
    ∃ a c s', v = .slice a l.length c ∧ appendTo s h.sz a l.length c new l'.length = some (.slice (some (own s.n 0)) (l.length + l'.length) h.sz, s') ∧ Exd (Dv v) s s' ∧ Ow h ro F s' (.slice (some (own s.n 0)) (l.length + l'.length) h.sz) (l ++ l') ∧ s'.n = s.n + 1 := by
  rcases r with ⟨rfl, rfl⟩ | ⟨k, cs, rfl, h2, h3, h4⟩
  · refine ⟨none, 0, s.push new, rfl, ?_, ?_, ?_, rfl⟩
    · unfold appendTo
      rw [if_neg (by simp only [List.length_nil] at hb ⊢; omega), if_neg (by omega), if_pos ⟨rfl, rfl⟩]
      simp
    · rw [push_eq]; exact (S_ex hs _).d _
    · exact .inr ⟨s.n, new, by simp, hF, St.get_push_new _ _, hnew.mo ⟨by simp, fun j hj hF => ⟨St.get_push_old _ _ hj, hF.1, by omega⟩⟩⟩
  · have hkn := St.get_lt h3
    have hp : ∀ j, j < s.n → j ≠ k → ((s.put k none).push (cs ++ new)).get j = s.get j := fun j hj hjk => by
      rw [St.get_push_old _ _ (by simpa using hj), St.get_put_other _ _ hjk hkn]
    refine ⟨some (EV.own k 0), h.sz, (s.put k none).push (cs ++ new), rfl, ?_, ?_, ?_, rfl⟩
    · unfold appendTo
      rw [if_neg (by omega), if_neg (by omega), if_neg (by intro hh; have := h.pos; omega)]
      simp only [EV.own]
      rw [if_pos ⟨hm k hkn h2, trivial⟩, h3]
      simp only [cut]
      rw [if_pos (by rw [h4.length]; omega), List.drop_zero, ← h4.length, List.take_length]
    · refine ⟨by simp, Nat.le_refl _, fun j hj hjk => ?_, rfl, rfl, rfl, rfl, by simp [St.push, St.put, hs.len]⟩
      exact hp j hj (fun e => hjk ⟨l.length, h.sz, by subst e; rfl⟩)
    · refine .inr ⟨s.n, cs ++ new, by simp, hF, St.get_push_new (s.put k none) _, Rows.append (h4.mo ⟨by simp, fun j hj hF => ⟨hp j hj hF.2, hF.1, by omega⟩⟩) (hnew.mo ⟨by simp, fun j hj hF => ⟨hp j hj (fun e => hF.2 ⟨l.length, h.sz, by subst e; rfl⟩), hF.1, by omega⟩⟩)⟩
def Bs (s : St) (v : Value) (l : List UInt8) : Prop := (v = .slice none 0 0 ∧ l = []) ∨ ∃ k, v = .slice (some (own k 0)) l.length 1 ∧ s.get k = some (l.map v8) ∧ s.may k = true
theorem Bs.app {s : St} {v : Value} {l new : List UInt8} (hs : WF s) (r : Bs s v l) (hn : 0 < new.length) (hb : l.length + new.length ≤ 4294967296) :
    ∃ a c s', v = .slice a l.length c ∧ appendTo s 1 a l.length c (new.map v8) new.length = some (.slice (some (own s.n 0)) (l ++ new).length 1, s') ∧ Exd (Dv v) s s' ∧ s'.get s.n = some ((l ++ new).map v8) ∧ s'.n = s.n + 1 := by
  rcases r with ⟨rfl, rfl⟩ | ⟨k, rfl, h3, hm⟩
  · refine ⟨none, 0, s.push (new.map v8), rfl, ?_, ?_, St.get_push_new s (new.map v8), rfl⟩
    · unfold appendTo
      rw [if_neg (by simp only [List.length_nil] at hb ⊢; omega), if_neg (by omega), if_pos ⟨rfl, rfl⟩]
      simp
    · rw [push_eq]; exact (S_ex hs _).d _
  · have hkn := St.get_lt h3
    refine ⟨some (EV.own k 0), 1, (s.put k none).push (l.map v8 ++ new.map v8), rfl, ?_, ?_, ?_, rfl⟩
    · unfold appendTo
      rw [if_neg (by omega), if_neg (by omega), if_neg (by omega)]
      simp only [EV.own]
      rw [if_pos ⟨hm, trivial⟩, h3]
      simp [cut, List.take_of_length_le]
    · refine ⟨by simp, Nat.le_refl _, fun j hj hjk => ?_, rfl, rfl, rfl, rfl, by simp [St.push, St.put, hs.len]⟩
      rw [St.get_push_old _ _ (by simpa using hj), St.get_put_other _ _ (fun e => hjk ⟨l.length, 1, by subst e; rfl⟩) hkn]
    · rw [List.map_append]; exact St.get_push_new (s.put k none) _
theorem Bs.exd {D : Nat → Prop} {s s' : St} {v : Value} {l : List UInt8} (r : Bs s v l) (h : Exd D s s') (hD : ∀ j, D j → ¬ Dv v j) : Bs s' v l := by
  rcases r with r | ⟨k, rfl, h3, hm⟩
  · exact .inl r
  · exact .inr ⟨k, rfl, (h.row k (St.get_lt h3) (fun hd => hD k hd ⟨_, _, rfl⟩)).trans h3, by rw [h.may]; exact hm⟩
theorem Bs.ex {s s' : St} {v : Value} {l : List UInt8} (r : Bs s v l) (h : Ex s s') : Bs s' v l := r.exd (h.d (fun _ => False)) (fun _ h => h.elim)
theorem Bs.rd {s : St} {v : Value} {l : List UInt8} (r : Bs s v l) : ∃ a c, v = .slice a l.length c ∧ rdSl ro s a l.length = some (l.map v8) := by
  rcases r with ⟨rfl, rfl⟩ | ⟨k, rfl, h3, hm⟩
  · exact ⟨none, 0, rfl, rfl⟩
  · refine ⟨_, _, rfl, ?_⟩
    simp only [rdSl, EV.own, rdAt_own, h3, cut]
    rw [if_pos (by simp), List.drop_zero, List.take_of_length_le (by simp)]
theorem Exd.mo {D : Nat → Prop} {s s' : St} (h : Exd D s s') {F : Fp} (hF : ∀ j, F j → ¬ D j) : Mo F s F s' := ⟨h.n, fun j hj hF' => ⟨h.row j hj (hF j hF'), hF'⟩⟩
end
end Go.Proofs.YtakdnpafdadblaaGreat.EV.W
