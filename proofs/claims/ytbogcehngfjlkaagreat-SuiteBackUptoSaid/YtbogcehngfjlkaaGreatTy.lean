/-
  Texts of the claim: DTy.
-/
import Derived.Test.YtbogcehngfjlkaaGreatAc
import Derived.KernelRfl
import Derived.Test.YtbogcehngfjlkaaGreatProg
namespace Go.Proofs.YtbogcehngfjlkaaGreat
open Go.Proofs.Tryz
open Go Go.AM
def tt : TT :=
 .node 83 (.node 42 (.node 19 (.node 10 (.node 5 (.node 3 (.node 2 (.leaf 1 ⟨.other, 1, 8, [.one (.unk)], false⟩)
 (.leaf 2 ⟨.int .i64, 1, 8, [.ints .i64 1 (fun _ => 0)], false⟩))
 (.node 4 (.leaf 3 ⟨.int .i64, 1, 8, [.ints .i64 1 (fun _ => 0)], false⟩)
 (.leaf 4 ⟨.bool, 1, 1, [.one (.bool false)], false⟩)))
 (.node 7 (.node 6 (.leaf 5 ⟨.int .u8, 1, 1, [.ints .u8 1 (fun _ => 0)], false⟩)
 (.leaf 6 ⟨.int .u8, 1, 1, [.ints .u8 1 (fun _ => 0)], false⟩))
 (.node 8 (.leaf 7 ⟨.struct [(0, 2), (1, 3), (2, 4), (3, 6)], 4, 24, [.ints .i64 2 (fun _ => 0), .one (.bool false), .ints .u8 1 (fun _ => 0)], false⟩)
 (.node 9 (.leaf 8 ⟨.struct [(0, 2), (1, 3), (2, 4), (3, 6)], 4, 24, [.ints .i64 2 (fun _ => 0), .one (.bool false), .ints .u8 1 (fun _ => 0)], false⟩)
 (.leaf 9 ⟨.str, 1, 16, [.one (.str ⟨#[]⟩)], false⟩)))))
 (.node 14 (.node 12 (.node 11 (.leaf 10 ⟨.str, 1, 16, [.one (.str ⟨#[]⟩)], false⟩)
 (.leaf 11 ⟨.str, 1, 16, [.one (.str ⟨#[]⟩)], false⟩))
 (.node 13 (.leaf 12 ⟨.int .u64, 1, 8, [.ints .u64 1 (fun _ => 0)], false⟩)
 (.leaf 13 ⟨.struct [(0, 9), (1, 12)], 2, 24, [.one (.str ⟨#[]⟩), .ints .u64 1 (fun _ => 0)], false⟩)))
 (.node 16 (.node 15 (.leaf 14 ⟨.struct [(0, 9), (1, 12)], 2, 24, [.one (.str ⟨#[]⟩), .ints .u64 1 (fun _ => 0)], false⟩)
 (.leaf 15 ⟨.ptr, 1, 8, [.one (.nilp)], false⟩))
 (.node 17 (.leaf 16 ⟨.ptr, 1, 8, [.one (.nilp)], false⟩)
 (.node 18 (.leaf 17 ⟨.ptr, 1, 8, [.one (.nilp)], false⟩)
 (.leaf 18 ⟨.struct [(0, 17)], 1, 8, [.one (.nilp)], false⟩))))))
 (.node 29 (.node 23 (.node 21 (.node 20 (.leaf 19 ⟨.struct [(0, 17)], 1, 8, [.one (.nilp)], false⟩)
 (.leaf 20 ⟨.other, 1, 16, [.one (.raw .nilIface)], false⟩))
 (.node 22 (.leaf 21 ⟨.int .i32, 1, 4, [.ints .i32 1 (fun _ => 0)], false⟩)
 (.leaf 22 ⟨.arr 32 5, 32, 32, [.ints .u8 32 (fun _ => 0)], true⟩)))
 (.node 25 (.node 24 (.leaf 23 ⟨.arr 32 5, 32, 32, [.ints .u8 32 (fun _ => 0)], true⟩)
 (.leaf 24 ⟨.slice 5, 1, 24, [.one (.nils)], false⟩))
 (.node 26 (.leaf 25 ⟨.arr 32 5, 32, 32, [.ints .u8 32 (fun _ => 0)], true⟩)
 (.node 27 (.leaf 26 ⟨.other, 1, 8, [.one (.unk)], false⟩)
 (.leaf 27 ⟨.int .i64, 1, 8, [.ints .i64 1 (fun _ => 0)], false⟩)))))
 (.node 36 (.node 32 (.node 31 (.leaf 29 ⟨.other, 1, 8, [.one (.unk)], false⟩)
 (.leaf 31 ⟨.other, 1, 8, [.one (.unk)], false⟩))
 (.node 34 (.leaf 32 ⟨.other, 1, 8, [.one (.unk)], false⟩)
 (.node 35 (.leaf 34 ⟨.other, 1, 8, [.one (.unk)], false⟩)
 (.leaf 35 ⟨.other, 1, 8, [.one (.unk)], false⟩))))
 (.node 39 (.node 38 (.leaf 36 ⟨.other, 1, 8, [.one (.unk)], false⟩)
 (.leaf 38 ⟨.other, 1, 8, [.one (.unk)], false⟩))
 (.node 40 (.leaf 39 ⟨.other, 1, 8, [.one (.unk)], false⟩)
 (.node 41 (.leaf 40 ⟨.other, 1, 8, [.one (.unk)], false⟩)
 (.leaf 41 ⟨.other, 1, 8, [.one (.unk)], false⟩)))))))
 (.node 62 (.node 52 (.node 47 (.node 45 (.node 43 (.leaf 42 ⟨.other, 1, 8, [.one (.unk)], false⟩)
 (.leaf 43 ⟨.other, 1, 8, [.one (.unk)], false⟩))
 (.node 46 (.leaf 45 ⟨.other, 1, 8, [.one (.unk)], false⟩)
 (.leaf 46 ⟨.other, 1, 8, [.one (.unk)], false⟩)))
 (.node 49 (.node 48 (.leaf 47 ⟨.other, 1, 8, [.one (.unk)], false⟩)
 (.leaf 48 ⟨.arr 10 2, 10, 80, [.ints .i64 10 (fun _ => 0)], true⟩))
 (.node 50 (.leaf 49 ⟨.arr 10 2, 10, 80, [.ints .i64 10 (fun _ => 0)], true⟩)
 (.node 51 (.leaf 50 ⟨.struct [(0, 49), (10, 49), (20, 49), (30, 49)], 40, 320, [.ints .i64 40 (fun _ => 0)], true⟩)
 (.leaf 51 ⟨.struct [(0, 49), (10, 49), (20, 49), (30, 49)], 40, 320, [.ints .i64 40 (fun _ => 0)], true⟩)))))
 (.node 56 (.node 54 (.node 53 (.leaf 52 ⟨.other, 1, 8, [.one (.unk)], false⟩)
 (.leaf 53 ⟨.other, 1, 8, [.one (.unk)], false⟩))
 (.node 55 (.leaf 54 ⟨.slice 24, 1, 24, [.one (.nils)], false⟩)
 (.leaf 55 ⟨.other, 1, 8, [.one (.unk)], false⟩)))
 (.node 58 (.node 57 (.leaf 56 ⟨.arr 64 5, 64, 64, [.ints .u8 64 (fun _ => 0)], true⟩)
 (.leaf 57 ⟨.arr 64 5, 64, 64, [.ints .u8 64 (fun _ => 0)], true⟩))
 (.node 59 (.leaf 58 ⟨.other, 1, 8, [.one (.unk)], false⟩)
 (.node 60 (.leaf 59 ⟨.other, 1, 8, [.one (.unk)], false⟩)
 (.leaf 60 ⟨.other, 1, 8, [.one (.unk)], false⟩))))))
 (.node 73 (.node 67 (.node 64 (.node 63 (.leaf 62 ⟨.other, 1, 8, [.one (.unk)], false⟩)
 (.leaf 63 ⟨.struct [(0, 49), (10, 49), (20, 51)], 60, 480, [.ints .i64 60 (fun _ => 0)], true⟩))
 (.node 65 (.leaf 64 ⟨.struct [(0, 49), (10, 49), (20, 51)], 60, 480, [.ints .i64 60 (fun _ => 0)], true⟩)
 (.leaf 65 ⟨.other, 1, 8, [.one (.unk)], false⟩)))
 (.node 70 (.node 68 (.leaf 67 ⟨.other, 1, 8, [.one (.unk)], false⟩)
 (.leaf 68 ⟨.other, 1, 8, [.one (.unk)], false⟩))
 (.node 71 (.leaf 70 ⟨.other, 1, 8, [.one (.unk)], false⟩)
 (.node 72 (.leaf 71 ⟨.arr 32 5, 32, 32, [.ints .u8 32 (fun _ => 0)], true⟩)
 (.leaf 72 ⟨.other, 1, 8, [.one (.unk)], false⟩)))))
 (.node 78 (.node 75 (.node 74 (.leaf 73 ⟨.int .u64, 1, 8, [.ints .u64 1 (fun _ => 0)], false⟩)
 (.leaf 74 ⟨.other, 1, 8, [.one (.unk)], false⟩))
 (.node 76 (.leaf 75 ⟨.other, 1, 8, [.one (.unk)], false⟩)
 (.node 77 (.leaf 76 ⟨.int .u64, 1, 8, [.ints .u64 1 (fun _ => 0)], false⟩)
 (.leaf 77 ⟨.arr 4 76, 4, 32, [.ints .u64 4 (fun _ => 0)], true⟩))))
 (.node 80 (.node 79 (.leaf 78 ⟨.arr 4 76, 4, 32, [.ints .u64 4 (fun _ => 0)], true⟩)
 (.leaf 79 ⟨.other, 1, 8, [.one (.unk)], false⟩))
 (.node 81 (.leaf 80 ⟨.other, 1, 8, [.one (.unk)], false⟩)
 (.node 82 (.leaf 81 ⟨.other, 1, 8, [.one (.unk)], false⟩)
 (.leaf 82 ⟨.arr 5 9, 5, 80, [.one (.str ⟨#[]⟩), .one (.str ⟨#[]⟩), .one (.str ⟨#[]⟩), .one (.str ⟨#[]⟩), .one (.str ⟨#[]⟩)], false⟩))))))))
 (.node 125 (.node 103 (.node 93 (.node 87 (.node 85 (.node 84 (.leaf 83 ⟨.other, 1, 8, [.one (.unk)], false⟩)
 (.leaf 84 ⟨.arr 5 76, 5, 40, [.ints .u64 5 (fun _ => 0)], true⟩))
 (.node 86 (.leaf 85 ⟨.arr 5 76, 5, 40, [.ints .u64 5 (fun _ => 0)], true⟩)
 (.leaf 86 ⟨.struct [(0, 85), (5, 85), (10, 85), (15, 85)], 20, 160, [.ints .u64 20 (fun _ => 0)], true⟩)))
 (.node 89 (.node 88 (.leaf 87 ⟨.struct [(0, 85), (5, 85), (10, 85), (15, 85)], 20, 160, [.ints .u64 20 (fun _ => 0)], true⟩)
 (.leaf 88 ⟨.other, 1, 8, [.one (.unk)], false⟩))
 (.node 91 (.leaf 89 ⟨.other, 1, 8, [.one (.unk)], false⟩)
 (.node 92 (.leaf 91 ⟨.other, 1, 8, [.one (.unk)], false⟩)
 (.leaf 92 ⟨.other, 1, 8, [.one (.unk)], false⟩)))))
 (.node 97 (.node 95 (.node 94 (.leaf 93 ⟨.other, 1, 8, [.one (.unk)], false⟩)
 (.leaf 94 ⟨.other, 1, 8, [.one (.unk)], false⟩))
 (.node 96 (.leaf 95 ⟨.other, 1, 8, [.one (.unk)], false⟩)
 (.leaf 96 ⟨.other, 1, 8, [.one (.unk)], false⟩)))
 (.node 99 (.node 98 (.leaf 97 ⟨.arr 16 51, 640, 5120, [.ints .i64 640 (fun _ => 0)], true⟩)
 (.leaf 98 ⟨.other, 1, 8, [.one (.unk)], false⟩))
 (.node 100 (.leaf 99 ⟨.other, 1, 8, [.one (.unk)], false⟩)
 (.node 101 (.leaf 100 ⟨.other, 1, 8, [.one (.unk)], false⟩)
 (.leaf 101 ⟨.other, 1, 8, [.one (.unk)], false⟩))))))
 (.node 113 (.node 108 (.node 106 (.node 104 (.leaf 103 ⟨.other, 1, 8, [.one (.unk)], false⟩)
 (.leaf 104 ⟨.other, 1, 8, [.one (.unk)], false⟩))
 (.node 107 (.leaf 106 ⟨.other, 1, 8, [.one (.unk)], false⟩)
 (.leaf 107 ⟨.other, 1, 8, [.one (.unk)], false⟩)))
 (.node 110 (.node 109 (.leaf 108 ⟨.ptr, 1, 8, [.one (.nilp)], false⟩)
 (.leaf 109 ⟨.other, 1, 8, [.one (.unk)], false⟩))
 (.node 111 (.leaf 110 ⟨.other, 1, 8, [.one (.unk)], false⟩)
 (.node 112 (.leaf 111 ⟨.other, 1, 8, [.one (.unk)], false⟩)
 (.leaf 112 ⟨.other, 1, 8, [.one (.unk)], false⟩)))))
 (.node 119 (.node 115 (.node 114 (.leaf 113 ⟨.other, 1, 8, [.one (.unk)], false⟩)
 (.leaf 114 ⟨.other, 1, 8, [.one (.unk)], false⟩))
 (.node 116 (.leaf 115 ⟨.arr 16 87, 320, 2560, [.ints .u64 320 (fun _ => 0)], true⟩)
 (.node 118 (.leaf 116 ⟨.other, 1, 8, [.one (.unk)], false⟩)
 (.leaf 118 ⟨.other, 1, 8, [.one (.unk)], false⟩))))
 (.node 122 (.node 120 (.leaf 119 ⟨.other, 1, 8, [.one (.unk)], false⟩)
 (.leaf 120 ⟨.other, 1, 8, [.one (.unk)], false⟩))
 (.node 123 (.leaf 122 ⟨.other, 1, 8, [.one (.unk)], false⟩)
 (.node 124 (.leaf 123 ⟨.other, 1, 8, [.one (.unk)], false⟩)
 (.leaf 124 ⟨.other, 1, 8, [.one (.unk)], false⟩)))))))
 (.node 143 (.node 134 (.node 129 (.node 127 (.node 126 (.leaf 125 ⟨.other, 1, 8, [.one (.unk)], false⟩)
 (.leaf 126 ⟨.arr 80 76, 80, 640, [.ints .u64 80 (fun _ => 0)], true⟩))
 (.node 128 (.leaf 127 ⟨.other, 1, 8, [.one (.unk)], false⟩)
 (.leaf 128 ⟨.arr 8 76, 8, 64, [.ints .u64 8 (fun _ => 0)], true⟩)))
 (.node 131 (.node 130 (.leaf 129 ⟨.other, 1, 8, [.one (.unk)], false⟩)
 (.leaf 130 ⟨.ptr, 1, 8, [.one (.nilp)], false⟩))
 (.node 132 (.leaf 131 ⟨.struct [(0, 128), (8, 24), (9, 76), (10, 130)], 11, 104, [.ints .u64 8 (fun _ => 0), .one (.nils), .ints .u64 1 (fun _ => 0), .one (.nilp)], false⟩)
 (.node 133 (.leaf 132 ⟨.struct [(0, 128), (8, 24), (9, 76), (10, 130)], 11, 104, [.ints .u64 8 (fun _ => 0), .one (.nils), .ints .u64 1 (fun _ => 0), .one (.nilp)], false⟩)
 (.leaf 133 ⟨.other, 1, 8, [.one (.unk)], false⟩)))))
 (.node 138 (.node 136 (.node 135 (.leaf 134 ⟨.other, 1, 8, [.one (.unk)], false⟩)
 (.leaf 135 ⟨.struct [(0, 76), (1, 76)], 2, 16, [.ints .u64 2 (fun _ => 0)], true⟩))
 (.node 137 (.leaf 136 ⟨.struct [(0, 76), (1, 76)], 2, 16, [.ints .u64 2 (fun _ => 0)], true⟩)
 (.leaf 137 ⟨.arr 5 136, 10, 80, [.ints .u64 10 (fun _ => 0)], true⟩)))
 (.node 140 (.node 139 (.leaf 138 ⟨.other, 1, 8, [.one (.unk)], false⟩)
 (.leaf 139 ⟨.arr 6 76, 6, 48, [.ints .u64 6 (fun _ => 0)], true⟩))
 (.node 141 (.leaf 140 ⟨.other, 1, 8, [.one (.unk)], false⟩)
 (.node 142 (.leaf 141 ⟨.other, 1, 8, [.one (.unk)], false⟩)
 (.leaf 142 ⟨.ptr, 1, 8, [.one (.nilp)], false⟩))))))
 (.node 152 (.node 147 (.node 145 (.node 144 (.leaf 143 ⟨.other, 1, 8, [.one (.unk)], false⟩)
 (.leaf 144 ⟨.other, 1, 8, [.one (.unk)], false⟩))
 (.node 146 (.leaf 145 ⟨.other, 1, 8, [.one (.unk)], false⟩)
 (.leaf 146 ⟨.struct [(0, 17), (1, 17), (2, 17), (3, 9)], 4, 40, [.one (.nilp), .one (.nilp), .one (.nilp), .one (.str ⟨#[]⟩)], false⟩)))
 (.node 149 (.node 148 (.leaf 147 ⟨.struct [(0, 17), (1, 17), (2, 17), (3, 9)], 4, 40, [.one (.nilp), .one (.nilp), .one (.nilp), .one (.str ⟨#[]⟩)], false⟩)
 (.leaf 148 ⟨.arr 0 16, 0, 0, [], false⟩))
 (.node 150 (.leaf 149 ⟨.struct [(0, 148)], 0, 0, [], false⟩)
 (.node 151 (.leaf 150 ⟨.struct [(0, 148)], 0, 0, [], false⟩)
 (.leaf 151 ⟨.other, 1, 8, [.one (.unk)], false⟩)))))
 (.node 157 (.node 154 (.node 153 (.leaf 152 ⟨.int .u32, 1, 4, [.ints .u32 1 (fun _ => 0)], false⟩)
 (.leaf 153 ⟨.int .u8, 1, 1, [.ints .u8 1 (fun _ => 0)], false⟩))
 (.node 155 (.leaf 154 ⟨.int .u8, 1, 1, [.ints .u8 1 (fun _ => 0)], false⟩)
 (.node 156 (.leaf 155 ⟨.other, 1, 8, [.one (.unk)], false⟩)
 (.leaf 156 ⟨.ptr, 1, 8, [.one (.nilp)], false⟩))))
 (.node 159 (.node 158 (.leaf 157 ⟨.int .i32, 1, 4, [.ints .i32 1 (fun _ => 0)], false⟩)
 (.leaf 158 ⟨.int .i32, 1, 4, [.ints .i32 1 (fun _ => 0)], false⟩))
 (.node 160 (.leaf 159 ⟨.struct [(0, 12), (1, 12), (2, 152), (3, 153), (4, 5), (5, 5), (6, 154), (7, 155), (8, 156), (9, 157), (10, 158)], 11, 48, [.ints .u64 2 (fun _ => 0), .ints .u32 1 (fun _ => 0), .ints .u8 4 (fun _ => 0), .one (.unk), .one (.nilp), .ints .i32 2 (fun _ => 0)], false⟩)
 (.node 161 (.leaf 160 ⟨.struct [(0, 12), (1, 12), (2, 152), (3, 153), (4, 5), (5, 5), (6, 154), (7, 155), (8, 156), (9, 157), (10, 158)], 11, 48, [.ints .u64 2 (fun _ => 0), .ints .u32 1 (fun _ => 0), .ints .u8 4 (fun _ => 0), .one (.unk), .one (.nilp), .ints .i32 2 (fun _ => 0)], false⟩)
 (.leaf 161 ⟨.other, 1, 8, [.one (.nilp)], false⟩))))))))
theorem tt_ok : tt.chk prog = true := by kernel_rfl
theorem mix : prog.follows .mixedOrders = true := by kernel_rfl
def F_rimelaw06_SuiteBack : Nat := 3
noncomputable def f_rimelaw06_SuiteBack : Func := f3
theorem at_rimelaw06_SuiteBack : prog.funcs[F_rimelaw06_SuiteBack]? = some f_rimelaw06_SuiteBack := func3
def F_rimelaw06_works : Nat := 4
noncomputable def f_rimelaw06_works : Func := f4
theorem at_rimelaw06_works : prog.funcs[F_rimelaw06_works]? = some f_rimelaw06_works := func4
def F_suite_PutElement : Nat := 5
noncomputable def f_suite_PutElement : Func := f5
theorem at_suite_PutElement : prog.funcs[F_suite_PutElement]? = some f_suite_PutElement := func5
def F_suite_GetElement : Nat := 6
noncomputable def f_suite_GetElement : Func := f6
theorem at_suite_GetElement : prog.funcs[F_suite_GetElement]? = some f_suite_GetElement := func6
def F_rimeplain_SameBytes : Nat := 7
noncomputable def f_rimeplain_SameBytes : Func := f7
theorem at_rimeplain_SameBytes : prog.funcs[F_rimeplain_SameBytes]? = some f_rimeplain_SameBytes := func7
def F_rimeref04_IsPrime : Nat := 8
noncomputable def f_rimeref04_IsPrime : Func := f8
theorem at_rimeref04_IsPrime : prog.funcs[F_rimeref04_IsPrime]? = some f_rimeref04_IsPrime := func8
def F_rimeref04_Identity : Nat := 9
noncomputable def f_rimeref04_Identity : Func := f9
theorem at_rimeref04_Identity : prog.funcs[F_rimeref04_Identity]? = some f_rimeref04_Identity := func9
def F_suite_PutScalar : Nat := 10
noncomputable def f_suite_PutScalar : Func := f10
theorem at_suite_PutScalar : prog.funcs[F_suite_PutScalar]? = some f_suite_PutScalar := func10
def F_suite_GetScalar : Nat := 11
noncomputable def f_suite_GetScalar : Func := f11
theorem at_suite_GetScalar : prog.funcs[F_suite_GetScalar]? = some f_suite_GetScalar := func11
def F_suite_H1 : Nat := 12
noncomputable def f_suite_H1 : Func := f12
theorem at_suite_H1 : prog.funcs[F_suite_H1]? = some f_suite_H1 := func12
def F_suite_Exp : Nat := 13
noncomputable def f_suite_Exp : Func := f13
theorem at_suite_Exp : prog.funcs[F_suite_Exp]? = some f_suite_Exp := func13
def F_rimelaw06_num : Nat := 14
noncomputable def f_rimelaw06_num : Func := f14
theorem at_rimelaw06_num : prog.funcs[F_rimelaw06_num]? = some f_rimelaw06_num := func14
def F_suite_group : Nat := 15
noncomputable def f_suite_group : Func := f15
theorem at_suite_group : prog.funcs[F_suite_group]? = some f_suite_group := func15
def F_rimeref04_Mul : Nat := 16
noncomputable def f_rimeref04_Mul : Func := f16
theorem at_rimeref04_Mul : prog.funcs[F_rimeref04_Mul]? = some f_rimeref04_Mul := func16
def F_rimeref04_Order : Nat := 17
noncomputable def f_rimeref04_Order : Func := f17
theorem at_rimeref04_Order : prog.funcs[F_rimeref04_Order]? = some f_rimeref04_Order := func17
def F_rimeref04_Form : Nat := 18
noncomputable def f_rimeref04_Form : Func := f18
theorem at_rimeref04_Form : prog.funcs[F_rimeref04_Form]? = some f_rimeref04_Form := func18
def F_rimeref04_None : Nat := 19
noncomputable def f_rimeref04_None : Func := f19
theorem at_rimeref04_None : prog.funcs[F_rimeref04_None]? = some f_rimeref04_None := func19
def F_scalar_Add : Nat := 20
noncomputable def f_scalar_Add : Func := f20
theorem at_scalar_Add : prog.funcs[F_scalar_Add]? = some f_scalar_Add := func20
def F_scalar_Decode : Nat := 21
noncomputable def f_scalar_Decode : Func := f21
theorem at_scalar_Decode : prog.funcs[F_scalar_Decode]? = some f_scalar_Decode := func21
def F_suite_number : Nat := 22
noncomputable def f_suite_number : Func := f22
theorem at_suite_number : prog.funcs[F_suite_number]? = some f_suite_number := func22
def F_suite_hashed : Nat := 23
noncomputable def f_suite_hashed : Func := f23
theorem at_suite_hashed : prog.funcs[F_suite_hashed]? = some f_suite_hashed := func23
def F_scalar_IsZero : Nat := 24
noncomputable def f_scalar_IsZero : Func := f24
theorem at_scalar_IsZero : prog.funcs[F_scalar_IsZero]? = some f_scalar_IsZero := func24
def F_edwards_MulBase : Nat := 25
noncomputable def f_edwards_MulBase : Func := f25
theorem at_edwards_MulBase : prog.funcs[F_edwards_MulBase]? = some f_edwards_MulBase := func25
def F_edwards_Check : Nat := 26
noncomputable def f_edwards_Check : Func := f26
theorem at_edwards_Check : prog.funcs[F_edwards_Check]? = some f_edwards_Check := func26
def F_edwards_Identity : Nat := 27
noncomputable def f_edwards_Identity : Func := f27
theorem at_edwards_Identity : prog.funcs[F_edwards_Identity]? = some f_edwards_Identity := func27
def F_edwards_IsPrime : Nat := 28
noncomputable def f_edwards_IsPrime : Func := f28
theorem at_edwards_IsPrime : prog.funcs[F_edwards_IsPrime]? = some f_edwards_IsPrime := func28
def F_rimeref04_Made : Nat := 29
noncomputable def f_rimeref04_Made : Func := f29
theorem at_rimeref04_Made : prog.funcs[F_rimeref04_Made]? = some f_rimeref04_Made := func29
def F_rimeref04_Curve_Point : Nat := 30
noncomputable def f_rimeref04_Curve_Point : Func := f30
theorem at_rimeref04_Curve_Point : prog.funcs[F_rimeref04_Curve_Point]? = some f_rimeref04_Curve_Point := func30
def F_rimeref04_Curve_Many : Nat := 31
noncomputable def f_rimeref04_Curve_Many : Func := f31
theorem at_rimeref04_Curve_Many : prog.funcs[F_rimeref04_Curve_Many]? = some f_rimeref04_Curve_Many := func31
def F_rimeref04_XY : Nat := 32
noncomputable def f_rimeref04_XY : Func := f32
theorem at_rimeref04_XY : prog.funcs[F_rimeref04_XY]? = some f_rimeref04_XY := func32
def F_rimeref04_Bytes : Nat := 33
noncomputable def f_rimeref04_Bytes : Func := f33
theorem at_rimeref04_Bytes : prog.funcs[F_rimeref04_Bytes]? = some f_rimeref04_Bytes := func33
def F_rimeref04_Small : Nat := 34
noncomputable def f_rimeref04_Small : Func := f34
theorem at_rimeref04_Small : prog.funcs[F_rimeref04_Small]? = some f_rimeref04_Small := func34
def F_scalar_back : Nat := 35
noncomputable def f_scalar_back : Func := f35
theorem at_scalar_back : prog.funcs[F_scalar_back]? = some f_scalar_back := func35
def F_scalar_plus : Nat := 36
noncomputable def f_scalar_plus : Func := f36
theorem at_scalar_plus : prog.funcs[F_scalar_plus]? = some f_scalar_plus := func36
def F_scalar_value : Nat := 37
noncomputable def f_scalar_value : Func := f37
theorem at_scalar_value : prog.funcs[F_scalar_value]? = some f_scalar_value := func37
def F_scalar_Canonical : Nat := 38
noncomputable def f_scalar_Canonical : Func := f38
theorem at_scalar_Canonical : prog.funcs[F_scalar_Canonical]? = some f_scalar_Canonical := func38
def F_scalar_Reduce : Nat := 39
noncomputable def f_scalar_Reduce : Func := f39
theorem at_scalar_Reduce : prog.funcs[F_scalar_Reduce]? = some f_scalar_Reduce := func39
def F_sha512_Join : Nat := 40
noncomputable def f_sha512_Join : Func := f40
theorem at_sha512_Join : prog.funcs[F_sha512_Join]? = some f_sha512_Join := func40
def F_edwards_base : Nat := 41
noncomputable def f_edwards_base : Func := f41
theorem at_edwards_base : prog.funcs[F_edwards_base]? = some f_edwards_base := func41
def F_edwards_point_times : Nat := 42
noncomputable def f_edwards_point_times : Func := f42
theorem at_edwards_point_times : prog.funcs[F_edwards_point_times]? = some f_edwards_point_times := func42
def F_edwards_point_form : Nat := 43
noncomputable def f_edwards_point_form : Func := f43
theorem at_edwards_point_form : prog.funcs[F_edwards_point_form]? = some f_edwards_point_form := func43
def F_edwards_open : Nat := 44
noncomputable def f_edwards_open : Func := f44
theorem at_edwards_open : prog.funcs[F_edwards_open]? = some f_edwards_open := func44
def F_edwards_identity : Nat := 45
noncomputable def f_edwards_identity : Func := f45
theorem at_edwards_identity : prog.funcs[F_edwards_identity]? = some f_edwards_identity := func45
def F_edwards_order : Nat := 46
noncomputable def f_edwards_order : Func := f46
theorem at_edwards_order : prog.funcs[F_edwards_order]? = some f_edwards_order := func46
def F_edwards_point_isIdentity : Nat := 47
noncomputable def f_edwards_point_isIdentity : Func := f47
theorem at_edwards_point_isIdentity : prog.funcs[F_edwards_point_isIdentity]? = some f_edwards_point_isIdentity := func47
def F_rimeref04_D : Nat := 48
noncomputable def f_rimeref04_D : Func := f48
theorem at_rimeref04_D : prog.funcs[F_rimeref04_D]? = some f_rimeref04_D := func48
def F_rimeref04_SqrtM1 : Nat := 49
noncomputable def f_rimeref04_SqrtM1 : Func := f49
theorem at_rimeref04_SqrtM1 : prog.funcs[F_rimeref04_SqrtM1]? = some f_rimeref04_SqrtM1 := func49
def F_rimeref04_Affine : Nat := 50
noncomputable def f_rimeref04_Affine : Func := f50
theorem at_rimeref04_Affine : prog.funcs[F_rimeref04_Affine]? = some f_rimeref04_Affine := func50
def F_rimeref04_From : Nat := 51
noncomputable def f_rimeref04_From : Func := f51
theorem at_rimeref04_From : prog.funcs[F_rimeref04_From]? = some f_rimeref04_From := func51
def F_rimeref04_Times : Nat := 52
noncomputable def f_rimeref04_Times : Func := f52
theorem at_rimeref04_Times : prog.funcs[F_rimeref04_Times]? = some f_rimeref04_Times := func52
def F_rimeref04_Minus : Nat := 53
noncomputable def f_rimeref04_Minus : Func := f53
theorem at_rimeref04_Minus : prog.funcs[F_rimeref04_Minus]? = some f_rimeref04_Minus := func53
def F_rimeref04_Plus : Nat := 54
noncomputable def f_rimeref04_Plus : Func := f54
theorem at_rimeref04_Plus : prog.funcs[F_rimeref04_Plus]? = some f_rimeref04_Plus := func54
def F_rimeref04_root : Nat := 55
noncomputable def f_rimeref04_root : Func := f55
theorem at_rimeref04_root : prog.funcs[F_rimeref04_root]? = some f_rimeref04_root := func55
def F_rimeref04_Same : Nat := 56
noncomputable def f_rimeref04_Same : Func := f56
theorem at_rimeref04_Same : prog.funcs[F_rimeref04_Same]? = some f_rimeref04_Same := func56
def F_rimeref04_Curve_Sum : Nat := 57
noncomputable def f_rimeref04_Curve_Sum : Func := f57
theorem at_rimeref04_Curve_Sum : prog.funcs[F_rimeref04_Curve_Sum]? = some f_rimeref04_Curve_Sum := func57
def F_rimeref04_Twice : Nat := 58
noncomputable def f_rimeref04_Twice : Func := f58
theorem at_rimeref04_Twice : prog.funcs[F_rimeref04_Twice]? = some f_rimeref04_Twice := func58
def F_rimeref04_Invert : Nat := 59
noncomputable def f_rimeref04_Invert : Func := f59
theorem at_rimeref04_Invert : prog.funcs[F_rimeref04_Invert]? = some f_rimeref04_Invert := func59
def F_rimeref04_carry : Nat := 60
noncomputable def f_rimeref04_carry : Func := f60
theorem at_rimeref04_carry : prog.funcs[F_rimeref04_carry]? = some f_rimeref04_carry := func60
def F_rimeref04_bits : Nat := 61
noncomputable def f_rimeref04_bits : Func := f61
theorem at_rimeref04_bits : prog.funcs[F_rimeref04_bits]? = some f_rimeref04_bits := func61
def F_bits_Add64 : Nat := 62
noncomputable def f_bits_Add64 : Func := f62
theorem at_bits_Add64 : prog.funcs[F_bits_Add64]? = some f_bits_Add64 := func62
def F_scalar_lowered : Nat := 63
noncomputable def f_scalar_lowered : Func := f63
theorem at_scalar_lowered : prog.funcs[F_scalar_lowered]? = some f_scalar_lowered := func63
def F_scalar_from : Nat := 64
noncomputable def f_scalar_from : Func := f64
theorem at_scalar_from : prog.funcs[F_scalar_from]? = some f_scalar_from := func64
def F_scalar_less : Nat := 65
noncomputable def f_scalar_less : Func := f65
theorem at_scalar_less : prog.funcs[F_scalar_less]? = some f_scalar_less := func65
def F_scalar_order : Nat := 66
noncomputable def f_scalar_order : Func := f66
theorem at_scalar_order : prog.funcs[F_scalar_order]? = some f_scalar_order := func66
def F_scalar_times : Nat := 67
noncomputable def f_scalar_times : Func := f67
theorem at_scalar_times : prog.funcs[F_scalar_times]? = some f_scalar_times := func67
def F_sha512_New : Nat := 68
noncomputable def f_sha512_New : Func := f68
theorem at_sha512_New : prog.funcs[F_sha512_New]? = some f_sha512_New := func68
def F_sha512_Hasher_Write : Nat := 69
noncomputable def f_sha512_Hasher_Write : Func := f69
theorem at_sha512_Hasher_Write : prog.funcs[F_sha512_Hasher_Write]? = some f_sha512_Hasher_Write := func69
def F_sha512_Hasher_Sum : Nat := 70
noncomputable def f_sha512_Hasher_Sum : Func := f70
theorem at_sha512_Hasher_Sum : prog.funcs[F_sha512_Hasher_Sum]? = some f_sha512_Hasher_Sum := func70
def F_edwards_load : Nat := 71
noncomputable def f_edwards_load : Func := f71
theorem at_edwards_load : prog.funcs[F_edwards_load]? = some f_edwards_load := func71
def F_edwards_small : Nat := 72
noncomputable def f_edwards_small : Func := f72
theorem at_edwards_small : prog.funcs[F_edwards_small]? = some f_edwards_small := func72
def F_edwards_fe_times : Nat := 73
noncomputable def f_edwards_fe_times : Func := f73
theorem at_edwards_fe_times : prog.funcs[F_edwards_fe_times]? = some f_edwards_fe_times := func73
def F_edwards_point_plus : Nat := 74
noncomputable def f_edwards_point_plus : Func := f74
theorem at_edwards_point_plus : prog.funcs[F_edwards_point_plus]? = some f_edwards_point_plus := func74
def F_edwards_point_twice : Nat := 75
noncomputable def f_edwards_point_twice : Func := f75
theorem at_edwards_point_twice : prog.funcs[F_edwards_point_twice]? = some f_edwards_point_twice := func75
def F_edwards_point_xy : Nat := 76
noncomputable def f_edwards_point_xy : Func := f76
theorem at_edwards_point_xy : prog.funcs[F_edwards_point_xy]? = some f_edwards_point_xy := func76
def F_edwards_fe_bytes : Nat := 77
noncomputable def f_edwards_fe_bytes : Func := f77
theorem at_edwards_fe_bytes : prog.funcs[F_edwards_fe_bytes]? = some f_edwards_fe_bytes := func77
def F_edwards_fe_odd : Nat := 78
noncomputable def f_edwards_fe_odd : Func := f78
theorem at_edwards_fe_odd : prog.funcs[F_edwards_fe_odd]? = some f_edwards_fe_odd := func78
def F_edwards_fe_square : Nat := 79
noncomputable def f_edwards_fe_square : Func := f79
theorem at_edwards_fe_square : prog.funcs[F_edwards_fe_square]? = some f_edwards_fe_square := func79
def F_edwards_root : Nat := 80
noncomputable def f_edwards_root : Func := f80
theorem at_edwards_root : prog.funcs[F_edwards_root]? = some f_edwards_root := func80
def F_edwards_fe_minus : Nat := 81
noncomputable def f_edwards_fe_minus : Func := f81
theorem at_edwards_fe_minus : prog.funcs[F_edwards_fe_minus]? = some f_edwards_fe_minus := func81
def F_edwards_curve : Nat := 82
noncomputable def f_edwards_curve : Func := f82
theorem at_edwards_curve : prog.funcs[F_edwards_curve]? = some f_edwards_curve := func82
def F_edwards_fe_plus : Nat := 83
noncomputable def f_edwards_fe_plus : Func := f83
theorem at_edwards_fe_plus : prog.funcs[F_edwards_fe_plus]? = some f_edwards_fe_plus := func83
def F_edwards_fe_same : Nat := 84
noncomputable def f_edwards_fe_same : Func := f84
theorem at_edwards_fe_same : prog.funcs[F_edwards_fe_same]? = some f_edwards_fe_same := func84
def F_rimeref04_power : Nat := 85
noncomputable def f_rimeref04_power : Func := f85
theorem at_rimeref04_power : prog.funcs[F_rimeref04_power]? = some f_rimeref04_power := func85
def F_rimeref04_exponent : Nat := 86
noncomputable def f_rimeref04_exponent : Func := f86
theorem at_rimeref04_exponent : prog.funcs[F_rimeref04_exponent]? = some f_rimeref04_exponent := func86
def F_bits_Sub64 : Nat := 87
noncomputable def f_bits_Sub64 : Func := f87
theorem at_bits_Sub64 : prog.funcs[F_bits_Sub64]? = some f_bits_Sub64 := func87
def F_scalar_mont : Nat := 88
noncomputable def f_scalar_mont : Func := f88
theorem at_scalar_mont : prog.funcs[F_scalar_mont]? = some f_scalar_mont := func88
def F_scalar_radix : Nat := 89
noncomputable def f_scalar_radix : Func := f89
theorem at_scalar_radix : prog.funcs[F_scalar_radix]? = some f_scalar_radix := func89
def F_sha512_Constants : Nat := 90
noncomputable def f_sha512_Constants : Func := f90
theorem at_sha512_Constants : prog.funcs[F_sha512_Constants]? = some f_sha512_Constants := func90
def F_sha512_begin : Nat := 91
noncomputable def f_sha512_begin : Func := f91
theorem at_sha512_begin : prog.funcs[F_sha512_begin]? = some f_sha512_begin := func91
def F_sha512_Hasher_made : Nat := 92
noncomputable def f_sha512_Hasher_made : Func := f92
theorem at_sha512_Hasher_made : prog.funcs[F_sha512_Hasher_made]? = some f_sha512_Hasher_made := func92
def F_sha512_block : Nat := 93
noncomputable def f_sha512_block : Func := f93
theorem at_sha512_block : prog.funcs[F_sha512_block]? = some f_sha512_block := func93
def F_sha512_pad : Nat := 94
noncomputable def f_sha512_pad : Func := f94
theorem at_sha512_pad : prog.funcs[F_sha512_pad]? = some f_sha512_pad := func94
def F_edwards_wide_add : Nat := 95
noncomputable def f_edwards_wide_add : Func := f95
theorem at_edwards_wide_add : prog.funcs[F_edwards_wide_add]? = some f_edwards_wide_add := func95
def F_edwards_carried : Nat := 96
noncomputable def f_edwards_carried : Func := f96
theorem at_edwards_carried : prog.funcs[F_edwards_carried]? = some f_edwards_carried := func96
def F_edwards_fe_inverse : Nat := 97
noncomputable def f_edwards_fe_inverse : Func := f97
theorem at_edwards_fe_inverse : prog.funcs[F_edwards_fe_inverse]? = some f_edwards_fe_inverse := func97
def F_edwards_fe_eighth : Nat := 98
noncomputable def f_edwards_fe_eighth : Func := f98
theorem at_edwards_fe_eighth : prog.funcs[F_edwards_fe_eighth]? = some f_edwards_fe_eighth := func98
def F_edwards_rootOfMinus1 : Nat := 99
noncomputable def f_edwards_rootOfMinus1 : Func := f99
theorem at_edwards_rootOfMinus1 : prog.funcs[F_edwards_rootOfMinus1]? = some f_edwards_rootOfMinus1 := func99
def F_scalar_muladd : Nat := 100
noncomputable def f_scalar_muladd : Func := f100
theorem at_scalar_muladd : prog.funcs[F_scalar_muladd]? = some f_scalar_muladd := func100
def F_sha512_ror : Nat := 101
noncomputable def f_sha512_ror : Func := f101
theorem at_sha512_ror : prog.funcs[F_sha512_ror]? = some f_sha512_ror := func101
def F_bits_Mul64 : Nat := 102
noncomputable def f_bits_Mul64 : Func := f102
theorem at_bits_Mul64 : prog.funcs[F_bits_Mul64]? = some f_bits_Mul64 := func102
def F_edwards_fe_chain : Nat := 103
noncomputable def f_edwards_fe_chain : Func := f103
theorem at_edwards_fe_chain : prog.funcs[F_edwards_fe_chain]? = some f_edwards_fe_chain := func103
def F_edwards_fe_squares : Nat := 104
noncomputable def f_edwards_fe_squares : Func := f104
theorem at_edwards_fe_squares : prog.funcs[F_edwards_fe_squares]? = some f_edwards_fe_squares := func104
def F_bits_RotateLeft64 : Nat := 105
noncomputable def f_bits_RotateLeft64 : Func := f105
theorem at_bits_RotateLeft64 : prog.funcs[F_bits_RotateLeft64]? = some f_bits_RotateLeft64 := func105
end Go.Proofs.YtbogcehngfjlkaaGreat
