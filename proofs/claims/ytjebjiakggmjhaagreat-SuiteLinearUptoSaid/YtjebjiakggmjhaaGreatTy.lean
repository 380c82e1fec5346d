/-
  Texts of the claim: DTy.
-/
import Derived.Test.YtjebjiakggmjhaaGreatAc
import Derived.KernelRfl
import Derived.Test.YtjebjiakggmjhaaGreatProg
namespace Go.Proofs.YtjebjiakggmjhaaGreat
open Go.Proofs.Tryz
open Go Go.AM
def tt : TT :=
 .node 81 (.node 41 (.node 20 (.node 10 (.node 5 (.node 3 (.node 2 (.leaf 1 ⟨.other, 1, 8, [.one (.unk)], false⟩)
 (.leaf 2 ⟨.int .i64, 1, 8, [.ints .i64 1 (fun _ => 0)], false⟩))
 (.node 4 (.leaf 3 ⟨.int .i64, 1, 8, [.ints .i64 1 (fun _ => 0)], false⟩)
 (.leaf 4 ⟨.bool, 1, 1, [.one (.bool false)], false⟩)))
 (.node 7 (.node 6 (.leaf 5 ⟨.int .u8, 1, 1, [.ints .u8 1 (fun _ => 0)], false⟩)
 (.leaf 6 ⟨.int .u8, 1, 1, [.ints .u8 1 (fun _ => 0)], false⟩))
 (.node 8 (.leaf 7 ⟨.struct [(0, 2), (1, 3), (2, 4), (3, 6)], 4, 24, [.ints .i64 2 (fun _ => 0), .one (.bool false), .ints .u8 1 (fun _ => 0)], false⟩)
 (.node 9 (.leaf 8 ⟨.struct [(0, 2), (1, 3), (2, 4), (3, 6)], 4, 24, [.ints .i64 2 (fun _ => 0), .one (.bool false), .ints .u8 1 (fun _ => 0)], false⟩)
 (.leaf 9 ⟨.str, 1, 16, [.one (.str ⟨#[]⟩)], false⟩)))))
 (.node 15 (.node 12 (.node 11 (.leaf 10 ⟨.str, 1, 16, [.one (.str ⟨#[]⟩)], false⟩)
 (.leaf 11 ⟨.str, 1, 16, [.one (.str ⟨#[]⟩)], false⟩))
 (.node 13 (.leaf 12 ⟨.int .u64, 1, 8, [.ints .u64 1 (fun _ => 0)], false⟩)
 (.node 14 (.leaf 13 ⟨.struct [(0, 9), (1, 12)], 2, 24, [.one (.str ⟨#[]⟩), .ints .u64 1 (fun _ => 0)], false⟩)
 (.leaf 14 ⟨.struct [(0, 9), (1, 12)], 2, 24, [.one (.str ⟨#[]⟩), .ints .u64 1 (fun _ => 0)], false⟩))))
 (.node 17 (.node 16 (.leaf 15 ⟨.ptr, 1, 8, [.one (.nilp)], false⟩)
 (.leaf 16 ⟨.ptr, 1, 8, [.one (.nilp)], false⟩))
 (.node 18 (.leaf 17 ⟨.ptr, 1, 8, [.one (.nilp)], false⟩)
 (.node 19 (.leaf 18 ⟨.struct [(0, 17)], 1, 8, [.one (.nilp)], false⟩)
 (.leaf 19 ⟨.struct [(0, 17)], 1, 8, [.one (.nilp)], false⟩))))))
 (.node 30 (.node 24 (.node 22 (.node 21 (.leaf 20 ⟨.other, 1, 16, [.one (.raw .nilIface)], false⟩)
 (.leaf 21 ⟨.int .i32, 1, 4, [.ints .i32 1 (fun _ => 0)], false⟩))
 (.node 23 (.leaf 22 ⟨.slice 26, 1, 24, [.one (.nils)], false⟩)
 (.leaf 23 ⟨.other, 1, 8, [.one (.unk)], false⟩)))
 (.node 26 (.node 25 (.leaf 24 ⟨.slice 27, 1, 24, [.one (.nils)], false⟩)
 (.leaf 25 ⟨.arr 32 5, 32, 32, [.ints .u8 32 (fun _ => 0)], true⟩))
 (.node 27 (.leaf 26 ⟨.arr 32 5, 32, 32, [.ints .u8 32 (fun _ => 0)], true⟩)
 (.node 28 (.leaf 27 ⟨.arr 32 5, 32, 32, [.ints .u8 32 (fun _ => 0)], true⟩)
 (.leaf 28 ⟨.int .i64, 1, 8, [.ints .i64 1 (fun _ => 0)], false⟩)))))
 (.node 36 (.node 32 (.node 31 (.leaf 30 ⟨.other, 1, 8, [.one (.unk)], false⟩)
 (.leaf 31 ⟨.other, 1, 8, [.one (.unk)], false⟩))
 (.node 34 (.leaf 32 ⟨.other, 1, 8, [.one (.unk)], false⟩)
 (.node 35 (.leaf 34 ⟨.other, 1, 8, [.one (.unk)], false⟩)
 (.leaf 35 ⟨.other, 1, 8, [.one (.unk)], false⟩))))
 (.node 38 (.node 37 (.leaf 36 ⟨.other, 1, 8, [.one (.unk)], false⟩)
 (.leaf 37 ⟨.other, 1, 8, [.one (.unk)], false⟩))
 (.node 39 (.leaf 38 ⟨.slice 5, 1, 24, [.one (.nils)], false⟩)
 (.node 40 (.leaf 39 ⟨.other, 1, 8, [.one (.unk)], false⟩)
 (.leaf 40 ⟨.other, 1, 8, [.one (.unk)], false⟩)))))))
 (.node 60 (.node 50 (.node 45 (.node 43 (.node 42 (.leaf 41 ⟨.other, 1, 8, [.one (.unk)], false⟩)
 (.leaf 42 ⟨.other, 1, 8, [.one (.unk)], false⟩))
 (.node 44 (.leaf 43 ⟨.int .u32, 1, 4, [.ints .u32 1 (fun _ => 0)], false⟩)
 (.leaf 44 ⟨.arr 8 43, 8, 32, [.ints .u32 8 (fun _ => 0)], true⟩)))
 (.node 47 (.node 46 (.leaf 45 ⟨.arr 8 43, 8, 32, [.ints .u32 8 (fun _ => 0)], true⟩)
 (.leaf 46 ⟨.other, 1, 8, [.one (.unk)], false⟩))
 (.node 48 (.leaf 47 ⟨.slice 43, 1, 24, [.one (.nils)], false⟩)
 (.node 49 (.leaf 48 ⟨.int .u64, 1, 8, [.ints .u64 1 (fun _ => 0)], false⟩)
 (.leaf 49 ⟨.int .u64, 1, 8, [.ints .u64 1 (fun _ => 0)], false⟩)))))
 (.node 55 (.node 52 (.node 51 (.leaf 50 ⟨.other, 1, 8, [.one (.unk)], false⟩)
 (.leaf 51 ⟨.other, 1, 8, [.one (.unk)], false⟩))
 (.node 53 (.leaf 52 ⟨.other, 1, 8, [.one (.unk)], false⟩)
 (.node 54 (.leaf 53 ⟨.other, 1, 8, [.one (.unk)], false⟩)
 (.leaf 54 ⟨.arr 10 2, 10, 80, [.ints .i64 10 (fun _ => 0)], true⟩))))
 (.node 57 (.node 56 (.leaf 55 ⟨.arr 10 2, 10, 80, [.ints .i64 10 (fun _ => 0)], true⟩)
 (.leaf 56 ⟨.struct [(0, 55), (10, 55), (20, 55), (30, 55)], 40, 320, [.ints .i64 40 (fun _ => 0)], true⟩))
 (.node 58 (.leaf 57 ⟨.struct [(0, 55), (10, 55), (20, 55), (30, 55)], 40, 320, [.ints .i64 40 (fun _ => 0)], true⟩)
 (.node 59 (.leaf 58 ⟨.struct [(0, 55), (10, 55), (20, 57)], 60, 480, [.ints .i64 60 (fun _ => 0)], true⟩)
 (.leaf 59 ⟨.struct [(0, 55), (10, 55), (20, 57)], 60, 480, [.ints .i64 60 (fun _ => 0)], true⟩))))))
 (.node 71 (.node 66 (.node 63 (.node 62 (.leaf 60 ⟨.other, 1, 8, [.one (.unk)], false⟩)
 (.leaf 62 ⟨.other, 1, 8, [.one (.unk)], false⟩))
 (.node 64 (.leaf 63 ⟨.other, 1, 8, [.one (.unk)], false⟩)
 (.node 65 (.leaf 64 ⟨.other, 1, 8, [.one (.unk)], false⟩)
 (.leaf 65 ⟨.other, 1, 8, [.one (.unk)], false⟩))))
 (.node 68 (.node 67 (.leaf 66 ⟨.slice 38, 1, 24, [.one (.nils)], false⟩)
 (.leaf 67 ⟨.other, 1, 8, [.one (.unk)], false⟩))
 (.node 69 (.leaf 68 ⟨.arr 64 5, 64, 64, [.ints .u8 64 (fun _ => 0)], true⟩)
 (.node 70 (.leaf 69 ⟨.arr 64 5, 64, 64, [.ints .u8 64 (fun _ => 0)], true⟩)
 (.leaf 70 ⟨.other, 1, 8, [.one (.unk)], false⟩)))))
 (.node 76 (.node 73 (.node 72 (.leaf 71 ⟨.other, 1, 8, [.one (.unk)], false⟩)
 (.leaf 72 ⟨.arr 4 48, 4, 32, [.ints .u64 4 (fun _ => 0)], true⟩))
 (.node 74 (.leaf 73 ⟨.arr 4 48, 4, 32, [.ints .u64 4 (fun _ => 0)], true⟩)
 (.node 75 (.leaf 74 ⟨.other, 1, 8, [.one (.unk)], false⟩)
 (.leaf 75 ⟨.other, 1, 8, [.one (.unk)], false⟩))))
 (.node 78 (.node 77 (.leaf 76 ⟨.arr 5 48, 5, 40, [.ints .u64 5 (fun _ => 0)], true⟩)
 (.leaf 77 ⟨.arr 5 48, 5, 40, [.ints .u64 5 (fun _ => 0)], true⟩))
 (.node 79 (.leaf 78 ⟨.struct [(0, 77), (5, 77), (10, 77), (15, 77)], 20, 160, [.ints .u64 20 (fun _ => 0)], true⟩)
 (.node 80 (.leaf 79 ⟨.struct [(0, 77), (5, 77), (10, 77), (15, 77)], 20, 160, [.ints .u64 20 (fun _ => 0)], true⟩)
 (.leaf 80 ⟨.other, 1, 8, [.one (.unk)], false⟩))))))))
 (.node 125 (.node 103 (.node 92 (.node 85 (.node 83 (.node 82 (.leaf 81 ⟨.other, 1, 8, [.one (.unk)], false⟩)
 (.leaf 82 ⟨.other, 1, 8, [.one (.unk)], false⟩))
 (.node 84 (.leaf 83 ⟨.other, 1, 8, [.one (.unk)], false⟩)
 (.leaf 84 ⟨.other, 1, 8, [.one (.unk)], false⟩)))
 (.node 89 (.node 87 (.leaf 85 ⟨.other, 1, 8, [.one (.unk)], false⟩)
 (.leaf 87 ⟨.other, 1, 8, [.one (.unk)], false⟩))
 (.node 90 (.leaf 89 ⟨.other, 1, 8, [.one (.unk)], false⟩)
 (.node 91 (.leaf 90 ⟨.other, 1, 8, [.one (.unk)], false⟩)
 (.leaf 91 ⟨.arr 32 5, 32, 32, [.ints .u8 32 (fun _ => 0)], true⟩)))))
 (.node 97 (.node 94 (.node 93 (.leaf 92 ⟨.other, 1, 8, [.one (.unk)], false⟩)
 (.leaf 93 ⟨.other, 1, 8, [.one (.unk)], false⟩))
 (.node 95 (.leaf 94 ⟨.other, 1, 8, [.one (.unk)], false⟩)
 (.node 96 (.leaf 95 ⟨.other, 1, 8, [.one (.unk)], false⟩)
 (.leaf 96 ⟨.other, 1, 8, [.one (.unk)], false⟩))))
 (.node 100 (.node 98 (.leaf 97 ⟨.other, 1, 8, [.one (.unk)], false⟩)
 (.leaf 98 ⟨.other, 1, 8, [.one (.unk)], false⟩))
 (.node 101 (.leaf 100 ⟨.other, 1, 8, [.one (.unk)], false⟩)
 (.node 102 (.leaf 101 ⟨.other, 1, 8, [.one (.unk)], false⟩)
 (.leaf 102 ⟨.arr 5 9, 5, 80, [.one (.str ⟨#[]⟩), .one (.str ⟨#[]⟩), .one (.str ⟨#[]⟩), .one (.str ⟨#[]⟩), .one (.str ⟨#[]⟩)], false⟩))))))
 (.node 114 (.node 108 (.node 106 (.node 105 (.leaf 103 ⟨.other, 1, 8, [.one (.unk)], false⟩)
 (.leaf 105 ⟨.other, 1, 8, [.one (.unk)], false⟩))
 (.node 107 (.leaf 106 ⟨.other, 1, 8, [.one (.unk)], false⟩)
 (.leaf 107 ⟨.other, 1, 8, [.one (.unk)], false⟩)))
 (.node 110 (.node 109 (.leaf 108 ⟨.other, 1, 8, [.one (.unk)], false⟩)
 (.leaf 109 ⟨.other, 1, 8, [.one (.unk)], false⟩))
 (.node 112 (.leaf 110 ⟨.arr 16 79, 320, 2560, [.ints .u64 320 (fun _ => 0)], true⟩)
 (.node 113 (.leaf 112 ⟨.other, 1, 8, [.one (.unk)], false⟩)
 (.leaf 113 ⟨.other, 1, 8, [.one (.unk)], false⟩)))))
 (.node 120 (.node 117 (.node 115 (.leaf 114 ⟨.other, 1, 8, [.one (.unk)], false⟩)
 (.leaf 115 ⟨.other, 1, 8, [.one (.unk)], false⟩))
 (.node 118 (.leaf 117 ⟨.other, 1, 8, [.one (.unk)], false⟩)
 (.node 119 (.leaf 118 ⟨.other, 1, 8, [.one (.unk)], false⟩)
 (.leaf 119 ⟨.other, 1, 8, [.one (.unk)], false⟩))))
 (.node 122 (.node 121 (.leaf 120 ⟨.other, 1, 8, [.one (.unk)], false⟩)
 (.leaf 121 ⟨.other, 1, 8, [.one (.unk)], false⟩))
 (.node 123 (.leaf 122 ⟨.ptr, 1, 8, [.one (.nilp)], false⟩)
 (.node 124 (.leaf 123 ⟨.other, 1, 8, [.one (.unk)], false⟩)
 (.leaf 124 ⟨.other, 1, 8, [.one (.unk)], false⟩)))))))
 (.node 145 (.node 135 (.node 130 (.node 128 (.node 127 (.leaf 125 ⟨.other, 1, 8, [.one (.unk)], false⟩)
 (.leaf 127 ⟨.other, 1, 8, [.one (.unk)], false⟩))
 (.node 129 (.leaf 128 ⟨.other, 1, 8, [.one (.unk)], false⟩)
 (.leaf 129 ⟨.struct [(0, 48), (1, 48)], 2, 16, [.ints .u64 2 (fun _ => 0)], true⟩)))
 (.node 132 (.node 131 (.leaf 130 ⟨.struct [(0, 48), (1, 48)], 2, 16, [.ints .u64 2 (fun _ => 0)], true⟩)
 (.leaf 131 ⟨.arr 5 130, 10, 80, [.ints .u64 10 (fun _ => 0)], true⟩))
 (.node 133 (.leaf 132 ⟨.other, 1, 8, [.one (.unk)], false⟩)
 (.node 134 (.leaf 133 ⟨.other, 1, 8, [.one (.unk)], false⟩)
 (.leaf 134 ⟨.arr 80 48, 80, 640, [.ints .u64 80 (fun _ => 0)], true⟩)))))
 (.node 140 (.node 137 (.node 136 (.leaf 135 ⟨.other, 1, 8, [.one (.unk)], false⟩)
 (.leaf 136 ⟨.arr 8 48, 8, 64, [.ints .u64 8 (fun _ => 0)], true⟩))
 (.node 138 (.leaf 137 ⟨.other, 1, 8, [.one (.unk)], false⟩)
 (.node 139 (.leaf 138 ⟨.ptr, 1, 8, [.one (.nilp)], false⟩)
 (.leaf 139 ⟨.struct [(0, 136), (8, 38), (9, 48), (10, 138)], 11, 104, [.ints .u64 8 (fun _ => 0), .one (.nils), .ints .u64 1 (fun _ => 0), .one (.nilp)], false⟩))))
 (.node 142 (.node 141 (.leaf 140 ⟨.struct [(0, 136), (8, 38), (9, 48), (10, 138)], 11, 104, [.ints .u64 8 (fun _ => 0), .one (.nils), .ints .u64 1 (fun _ => 0), .one (.nilp)], false⟩)
 (.leaf 141 ⟨.other, 1, 8, [.one (.unk)], false⟩))
 (.node 143 (.leaf 142 ⟨.other, 1, 8, [.one (.unk)], false⟩)
 (.node 144 (.leaf 143 ⟨.ptr, 1, 8, [.one (.nilp)], false⟩)
 (.leaf 144 ⟨.other, 1, 8, [.one (.unk)], false⟩))))))
 (.node 155 (.node 150 (.node 147 (.node 146 (.leaf 145 ⟨.other, 1, 8, [.one (.unk)], false⟩)
 (.leaf 146 ⟨.arr 6 48, 6, 48, [.ints .u64 6 (fun _ => 0)], true⟩))
 (.node 148 (.leaf 147 ⟨.other, 1, 8, [.one (.unk)], false⟩)
 (.node 149 (.leaf 148 ⟨.other, 1, 8, [.one (.unk)], false⟩)
 (.leaf 149 ⟨.other, 1, 8, [.one (.unk)], false⟩))))
 (.node 152 (.node 151 (.leaf 150 ⟨.struct [(0, 17), (1, 17), (2, 17), (3, 9)], 4, 40, [.one (.nilp), .one (.nilp), .one (.nilp), .one (.str ⟨#[]⟩)], false⟩)
 (.leaf 151 ⟨.struct [(0, 17), (1, 17), (2, 17), (3, 9)], 4, 40, [.one (.nilp), .one (.nilp), .one (.nilp), .one (.str ⟨#[]⟩)], false⟩))
 (.node 153 (.leaf 152 ⟨.arr 0 16, 0, 0, [], false⟩)
 (.node 154 (.leaf 153 ⟨.struct [(0, 152)], 0, 0, [], false⟩)
 (.leaf 154 ⟨.struct [(0, 152)], 0, 0, [], false⟩)))))
 (.node 160 (.node 157 (.node 156 (.leaf 155 ⟨.other, 1, 8, [.one (.unk)], false⟩)
 (.leaf 156 ⟨.int .u8, 1, 1, [.ints .u8 1 (fun _ => 0)], false⟩))
 (.node 158 (.leaf 157 ⟨.int .u8, 1, 1, [.ints .u8 1 (fun _ => 0)], false⟩)
 (.node 159 (.leaf 158 ⟨.other, 1, 8, [.one (.unk)], false⟩)
 (.leaf 159 ⟨.ptr, 1, 8, [.one (.nilp)], false⟩))))
 (.node 162 (.node 161 (.leaf 160 ⟨.int .i32, 1, 4, [.ints .i32 1 (fun _ => 0)], false⟩)
 (.leaf 161 ⟨.int .i32, 1, 4, [.ints .i32 1 (fun _ => 0)], false⟩))
 (.node 163 (.leaf 162 ⟨.struct [(0, 12), (1, 12), (2, 43), (3, 156), (4, 5), (5, 5), (6, 157), (7, 158), (8, 159), (9, 160), (10, 161)], 11, 48, [.ints .u64 2 (fun _ => 0), .ints .u32 1 (fun _ => 0), .ints .u8 4 (fun _ => 0), .one (.unk), .one (.nilp), .ints .i32 2 (fun _ => 0)], false⟩)
 (.node 164 (.leaf 163 ⟨.struct [(0, 12), (1, 12), (2, 43), (3, 156), (4, 5), (5, 5), (6, 157), (7, 158), (8, 159), (9, 160), (10, 161)], 11, 48, [.ints .u64 2 (fun _ => 0), .ints .u32 1 (fun _ => 0), .ints .u8 4 (fun _ => 0), .one (.unk), .one (.nilp), .ints .i32 2 (fun _ => 0)], false⟩)
 (.leaf 164 ⟨.other, 1, 8, [.one (.nilp)], false⟩))))))))
theorem tt_ok : tt.chk prog = true := by kernel_rfl
theorem mix : prog.follows .mixedOrders = true := by kernel_rfl
def F_rimelaw06_SuiteLinear : Nat := 3
noncomputable def f_rimelaw06_SuiteLinear : Func := f3
theorem at_rimelaw06_SuiteLinear : prog.funcs[F_rimelaw06_SuiteLinear]? = some f_rimelaw06_SuiteLinear := func3
def F_rimelaw06_works : Nat := 4
noncomputable def f_rimelaw06_works : Func := f4
theorem at_rimelaw06_works : prog.funcs[F_rimelaw06_works]? = some f_rimelaw06_works := func4
def F_suite_Exp : Nat := 5
noncomputable def f_suite_Exp : Func := f5
theorem at_suite_Exp : prog.funcs[F_suite_Exp]? = some f_suite_Exp := func5
def F_rimeref02_Add : Nat := 6
noncomputable def f_rimeref02_Add : Func := f6
theorem at_rimeref02_Add : prog.funcs[F_rimeref02_Add]? = some f_rimeref02_Add := func6
def F_rimeref02_Mul : Nat := 7
noncomputable def f_rimeref02_Mul : Func := f7
theorem at_rimeref02_Mul : prog.funcs[F_rimeref02_Mul]? = some f_rimeref02_Mul := func7
def F_suite_Combine : Nat := 8
noncomputable def f_suite_Combine : Func := f8
theorem at_suite_Combine : prog.funcs[F_suite_Combine]? = some f_suite_Combine := func8
def F_rimeref04_Add : Nat := 9
noncomputable def f_rimeref04_Add : Func := f9
theorem at_rimeref04_Add : prog.funcs[F_rimeref04_Add]? = some f_rimeref04_Add := func9
def F_rimeref04_Identity : Nat := 10
noncomputable def f_rimeref04_Identity : Func := f10
theorem at_rimeref04_Identity : prog.funcs[F_rimeref04_Identity]? = some f_rimeref04_Identity := func10
def F_suite_H1 : Nat := 11
noncomputable def f_suite_H1 : Func := f11
theorem at_suite_H1 : prog.funcs[F_suite_H1]? = some f_suite_H1 := func11
def F_suite_GetElement : Nat := 12
noncomputable def f_suite_GetElement : Func := f12
theorem at_suite_GetElement : prog.funcs[F_suite_GetElement]? = some f_suite_GetElement := func12
def F_rimelaw06_num : Nat := 13
noncomputable def f_rimelaw06_num : Func := f13
theorem at_rimelaw06_num : prog.funcs[F_rimelaw06_num]? = some f_rimelaw06_num := func13
def F_scalar_Add : Nat := 14
noncomputable def f_scalar_Add : Func := f14
theorem at_scalar_Add : prog.funcs[F_scalar_Add]? = some f_scalar_Add := func14
def F_scalar_IsZero : Nat := 15
noncomputable def f_scalar_IsZero : Func := f15
theorem at_scalar_IsZero : prog.funcs[F_scalar_IsZero]? = some f_scalar_IsZero := func15
def F_edwards_MulBase : Nat := 16
noncomputable def f_edwards_MulBase : Func := f16
theorem at_edwards_MulBase : prog.funcs[F_edwards_MulBase]? = some f_edwards_MulBase := func16
def F_rimeref02_Value : Nat := 17
noncomputable def f_rimeref02_Value : Func := f17
theorem at_rimeref02_Value : prog.funcs[F_rimeref02_Value]? = some f_rimeref02_Value := func17
def F_rimeref02_Back : Nat := 18
noncomputable def f_rimeref02_Back : Func := f18
theorem at_rimeref02_Back : prog.funcs[F_rimeref02_Back]? = some f_rimeref02_Back := func18
def F_rimeref02_mod : Nat := 19
noncomputable def f_rimeref02_mod : Func := f19
theorem at_rimeref02_mod : prog.funcs[F_rimeref02_mod]? = some f_rimeref02_mod := func19
def F_rimeref02_mul : Nat := 20
noncomputable def f_rimeref02_mul : Func := f20
theorem at_rimeref02_mul : prog.funcs[F_rimeref02_mul]? = some f_rimeref02_mul := func20
def F_suite_group : Nat := 21
noncomputable def f_suite_group : Func := f21
theorem at_suite_group : prog.funcs[F_suite_group]? = some f_suite_group := func21
def F_edwards_Multi : Nat := 22
noncomputable def f_edwards_Multi : Func := f22
theorem at_edwards_Multi : prog.funcs[F_edwards_Multi]? = some f_edwards_Multi := func22
def F_rimeref04_Made : Nat := 23
noncomputable def f_rimeref04_Made : Func := f23
theorem at_rimeref04_Made : prog.funcs[F_rimeref04_Made]? = some f_rimeref04_Made := func23
def F_rimeref04_Curve_Point : Nat := 24
noncomputable def f_rimeref04_Curve_Point : Func := f24
theorem at_rimeref04_Curve_Point : prog.funcs[F_rimeref04_Curve_Point]? = some f_rimeref04_Curve_Point := func24
def F_rimeref04_Form : Nat := 25
noncomputable def f_rimeref04_Form : Func := f25
theorem at_rimeref04_Form : prog.funcs[F_rimeref04_Form]? = some f_rimeref04_Form := func25
def F_rimeref04_Curve_Sum : Nat := 26
noncomputable def f_rimeref04_Curve_Sum : Func := f26
theorem at_rimeref04_Curve_Sum : prog.funcs[F_rimeref04_Curve_Sum]? = some f_rimeref04_Curve_Sum := func26
def F_rimeref04_None : Nat := 27
noncomputable def f_rimeref04_None : Func := f27
theorem at_rimeref04_None : prog.funcs[F_rimeref04_None]? = some f_rimeref04_None := func27
def F_suite_number : Nat := 28
noncomputable def f_suite_number : Func := f28
theorem at_suite_number : prog.funcs[F_suite_number]? = some f_suite_number := func28
def F_suite_hashed : Nat := 29
noncomputable def f_suite_hashed : Func := f29
theorem at_suite_hashed : prog.funcs[F_suite_hashed]? = some f_suite_hashed := func29
def F_scalar_back : Nat := 30
noncomputable def f_scalar_back : Func := f30
theorem at_scalar_back : prog.funcs[F_scalar_back]? = some f_scalar_back := func30
def F_scalar_plus : Nat := 31
noncomputable def f_scalar_plus : Func := f31
theorem at_scalar_plus : prog.funcs[F_scalar_plus]? = some f_scalar_plus := func31
def F_scalar_value : Nat := 32
noncomputable def f_scalar_value : Func := f32
theorem at_scalar_value : prog.funcs[F_scalar_value]? = some f_scalar_value := func32
def F_edwards_base : Nat := 33
noncomputable def f_edwards_base : Func := f33
theorem at_edwards_base : prog.funcs[F_edwards_base]? = some f_edwards_base := func33
def F_edwards_point_times : Nat := 34
noncomputable def f_edwards_point_times : Func := f34
theorem at_edwards_point_times : prog.funcs[F_edwards_point_times]? = some f_edwards_point_times := func34
def F_edwards_point_form : Nat := 35
noncomputable def f_edwards_point_form : Func := f35
theorem at_edwards_point_form : prog.funcs[F_edwards_point_form]? = some f_edwards_point_form := func35
def F_rimeref02_digits : Nat := 36
noncomputable def f_rimeref02_digits : Func := f36
theorem at_rimeref02_digits : prog.funcs[F_rimeref02_digits]? = some f_rimeref02_digits := func36
def F_rimeref02_Order : Nat := 37
noncomputable def f_rimeref02_Order : Func := f37
theorem at_rimeref02_Order : prog.funcs[F_rimeref02_Order]? = some f_rimeref02_Order := func37
def F_rimeref02_twice : Nat := 38
noncomputable def f_rimeref02_twice : Func := f38
theorem at_rimeref02_twice : prog.funcs[F_rimeref02_twice]? = some f_rimeref02_twice := func38
def F_rimeref02_below : Nat := 39
noncomputable def f_rimeref02_below : Func := f39
theorem at_rimeref02_below : prog.funcs[F_rimeref02_below]? = some f_rimeref02_below := func39
def F_rimeref02_minus : Nat := 40
noncomputable def f_rimeref02_minus : Func := f40
theorem at_rimeref02_minus : prog.funcs[F_rimeref02_minus]? = some f_rimeref02_minus := func40
def F_edwards_Check : Nat := 41
noncomputable def f_edwards_Check : Func := f41
theorem at_edwards_Check : prog.funcs[F_edwards_Check]? = some f_edwards_Check := func41
def F_edwards_Identity : Nat := 42
noncomputable def f_edwards_Identity : Func := f42
theorem at_edwards_Identity : prog.funcs[F_edwards_Identity]? = some f_edwards_Identity := func42
def F_edwards_IsPrime : Nat := 43
noncomputable def f_edwards_IsPrime : Func := f43
theorem at_edwards_IsPrime : prog.funcs[F_edwards_IsPrime]? = some f_edwards_IsPrime := func43
def F_edwards_identity : Nat := 44
noncomputable def f_edwards_identity : Func := f44
theorem at_edwards_identity : prog.funcs[F_edwards_identity]? = some f_edwards_identity := func44
def F_edwards_open : Nat := 45
noncomputable def f_edwards_open : Func := f45
theorem at_edwards_open : prog.funcs[F_edwards_open]? = some f_edwards_open := func45
def F_edwards_point_plus : Nat := 46
noncomputable def f_edwards_point_plus : Func := f46
theorem at_edwards_point_plus : prog.funcs[F_edwards_point_plus]? = some f_edwards_point_plus := func46
def F_rimeref04_D : Nat := 47
noncomputable def f_rimeref04_D : Func := f47
theorem at_rimeref04_D : prog.funcs[F_rimeref04_D]? = some f_rimeref04_D := func47
def F_rimeref04_SqrtM1 : Nat := 48
noncomputable def f_rimeref04_SqrtM1 : Func := f48
theorem at_rimeref04_SqrtM1 : prog.funcs[F_rimeref04_SqrtM1]? = some f_rimeref04_SqrtM1 := func48
def F_rimeref04_Affine : Nat := 49
noncomputable def f_rimeref04_Affine : Func := f49
theorem at_rimeref04_Affine : prog.funcs[F_rimeref04_Affine]? = some f_rimeref04_Affine := func49
def F_rimeref04_From : Nat := 50
noncomputable def f_rimeref04_From : Func := f50
theorem at_rimeref04_From : prog.funcs[F_rimeref04_From]? = some f_rimeref04_From := func50
def F_rimeref04_Bytes : Nat := 51
noncomputable def f_rimeref04_Bytes : Func := f51
theorem at_rimeref04_Bytes : prog.funcs[F_rimeref04_Bytes]? = some f_rimeref04_Bytes := func51
def F_rimeref04_Times : Nat := 52
noncomputable def f_rimeref04_Times : Func := f52
theorem at_rimeref04_Times : prog.funcs[F_rimeref04_Times]? = some f_rimeref04_Times := func52
def F_rimeref04_Minus : Nat := 53
noncomputable def f_rimeref04_Minus : Func := f53
theorem at_rimeref04_Minus : prog.funcs[F_rimeref04_Minus]? = some f_rimeref04_Minus := func53
def F_rimeref04_Small : Nat := 54
noncomputable def f_rimeref04_Small : Func := f54
theorem at_rimeref04_Small : prog.funcs[F_rimeref04_Small]? = some f_rimeref04_Small := func54
def F_rimeref04_Plus : Nat := 55
noncomputable def f_rimeref04_Plus : Func := f55
theorem at_rimeref04_Plus : prog.funcs[F_rimeref04_Plus]? = some f_rimeref04_Plus := func55
def F_rimeref04_root : Nat := 56
noncomputable def f_rimeref04_root : Func := f56
theorem at_rimeref04_root : prog.funcs[F_rimeref04_root]? = some f_rimeref04_root := func56
def F_rimeref04_Same : Nat := 57
noncomputable def f_rimeref04_Same : Func := f57
theorem at_rimeref04_Same : prog.funcs[F_rimeref04_Same]? = some f_rimeref04_Same := func57
def F_rimeref04_XY : Nat := 58
noncomputable def f_rimeref04_XY : Func := f58
theorem at_rimeref04_XY : prog.funcs[F_rimeref04_XY]? = some f_rimeref04_XY := func58
def F_scalar_Reduce : Nat := 59
noncomputable def f_scalar_Reduce : Func := f59
theorem at_scalar_Reduce : prog.funcs[F_scalar_Reduce]? = some f_scalar_Reduce := func59
def F_sha512_Join : Nat := 60
noncomputable def f_sha512_Join : Func := f60
theorem at_sha512_Join : prog.funcs[F_sha512_Join]? = some f_sha512_Join := func60
def F_bits_Add64 : Nat := 61
noncomputable def f_bits_Add64 : Func := f61
theorem at_bits_Add64 : prog.funcs[F_bits_Add64]? = some f_bits_Add64 := func61
def F_scalar_lowered : Nat := 62
noncomputable def f_scalar_lowered : Func := f62
theorem at_scalar_lowered : prog.funcs[F_scalar_lowered]? = some f_scalar_lowered := func62
def F_scalar_from : Nat := 63
noncomputable def f_scalar_from : Func := f63
theorem at_scalar_from : prog.funcs[F_scalar_from]? = some f_scalar_from := func63
def F_edwards_load : Nat := 64
noncomputable def f_edwards_load : Func := f64
theorem at_edwards_load : prog.funcs[F_edwards_load]? = some f_edwards_load := func64
def F_edwards_small : Nat := 65
noncomputable def f_edwards_small : Func := f65
theorem at_edwards_small : prog.funcs[F_edwards_small]? = some f_edwards_small := func65
def F_edwards_fe_times : Nat := 66
noncomputable def f_edwards_fe_times : Func := f66
theorem at_edwards_fe_times : prog.funcs[F_edwards_fe_times]? = some f_edwards_fe_times := func66
def F_edwards_point_twice : Nat := 67
noncomputable def f_edwards_point_twice : Func := f67
theorem at_edwards_point_twice : prog.funcs[F_edwards_point_twice]? = some f_edwards_point_twice := func67
def F_edwards_point_xy : Nat := 68
noncomputable def f_edwards_point_xy : Func := f68
theorem at_edwards_point_xy : prog.funcs[F_edwards_point_xy]? = some f_edwards_point_xy := func68
def F_edwards_fe_bytes : Nat := 69
noncomputable def f_edwards_fe_bytes : Func := f69
theorem at_edwards_fe_bytes : prog.funcs[F_edwards_fe_bytes]? = some f_edwards_fe_bytes := func69
def F_edwards_fe_odd : Nat := 70
noncomputable def f_edwards_fe_odd : Func := f70
theorem at_edwards_fe_odd : prog.funcs[F_edwards_fe_odd]? = some f_edwards_fe_odd := func70
def F_edwards_order : Nat := 71
noncomputable def f_edwards_order : Func := f71
theorem at_edwards_order : prog.funcs[F_edwards_order]? = some f_edwards_order := func71
def F_edwards_point_isIdentity : Nat := 72
noncomputable def f_edwards_point_isIdentity : Func := f72
theorem at_edwards_point_isIdentity : prog.funcs[F_edwards_point_isIdentity]? = some f_edwards_point_isIdentity := func72
def F_edwards_fe_square : Nat := 73
noncomputable def f_edwards_fe_square : Func := f73
theorem at_edwards_fe_square : prog.funcs[F_edwards_fe_square]? = some f_edwards_fe_square := func73
def F_edwards_root : Nat := 74
noncomputable def f_edwards_root : Func := f74
theorem at_edwards_root : prog.funcs[F_edwards_root]? = some f_edwards_root := func74
def F_edwards_fe_minus : Nat := 75
noncomputable def f_edwards_fe_minus : Func := f75
theorem at_edwards_fe_minus : prog.funcs[F_edwards_fe_minus]? = some f_edwards_fe_minus := func75
def F_edwards_curve : Nat := 76
noncomputable def f_edwards_curve : Func := f76
theorem at_edwards_curve : prog.funcs[F_edwards_curve]? = some f_edwards_curve := func76
def F_edwards_fe_plus : Nat := 77
noncomputable def f_edwards_fe_plus : Func := f77
theorem at_edwards_fe_plus : prog.funcs[F_edwards_fe_plus]? = some f_edwards_fe_plus := func77
def F_rimeref04_bits : Nat := 78
noncomputable def f_rimeref04_bits : Func := f78
theorem at_rimeref04_bits : prog.funcs[F_rimeref04_bits]? = some f_rimeref04_bits := func78
def F_rimeref04_carry : Nat := 79
noncomputable def f_rimeref04_carry : Func := f79
theorem at_rimeref04_carry : prog.funcs[F_rimeref04_carry]? = some f_rimeref04_carry := func79
def F_rimeref04_power : Nat := 80
noncomputable def f_rimeref04_power : Func := f80
theorem at_rimeref04_power : prog.funcs[F_rimeref04_power]? = some f_rimeref04_power := func80
def F_rimeref04_exponent : Nat := 81
noncomputable def f_rimeref04_exponent : Func := f81
theorem at_rimeref04_exponent : prog.funcs[F_rimeref04_exponent]? = some f_rimeref04_exponent := func81
def F_rimeref04_Invert : Nat := 82
noncomputable def f_rimeref04_Invert : Func := f82
theorem at_rimeref04_Invert : prog.funcs[F_rimeref04_Invert]? = some f_rimeref04_Invert := func82
def F_scalar_times : Nat := 83
noncomputable def f_scalar_times : Func := f83
theorem at_scalar_times : prog.funcs[F_scalar_times]? = some f_scalar_times := func83
def F_sha512_New : Nat := 84
noncomputable def f_sha512_New : Func := f84
theorem at_sha512_New : prog.funcs[F_sha512_New]? = some f_sha512_New := func84
def F_sha512_Hasher_Write : Nat := 85
noncomputable def f_sha512_Hasher_Write : Func := f85
theorem at_sha512_Hasher_Write : prog.funcs[F_sha512_Hasher_Write]? = some f_sha512_Hasher_Write := func85
def F_sha512_Hasher_Sum : Nat := 86
noncomputable def f_sha512_Hasher_Sum : Func := f86
theorem at_sha512_Hasher_Sum : prog.funcs[F_sha512_Hasher_Sum]? = some f_sha512_Hasher_Sum := func86
def F_scalar_less : Nat := 87
noncomputable def f_scalar_less : Func := f87
theorem at_scalar_less : prog.funcs[F_scalar_less]? = some f_scalar_less := func87
def F_scalar_order : Nat := 88
noncomputable def f_scalar_order : Func := f88
theorem at_scalar_order : prog.funcs[F_scalar_order]? = some f_scalar_order := func88
def F_edwards_wide_add : Nat := 89
noncomputable def f_edwards_wide_add : Func := f89
theorem at_edwards_wide_add : prog.funcs[F_edwards_wide_add]? = some f_edwards_wide_add := func89
def F_edwards_carried : Nat := 90
noncomputable def f_edwards_carried : Func := f90
theorem at_edwards_carried : prog.funcs[F_edwards_carried]? = some f_edwards_carried := func90
def F_edwards_fe_inverse : Nat := 91
noncomputable def f_edwards_fe_inverse : Func := f91
theorem at_edwards_fe_inverse : prog.funcs[F_edwards_fe_inverse]? = some f_edwards_fe_inverse := func91
def F_edwards_fe_same : Nat := 92
noncomputable def f_edwards_fe_same : Func := f92
theorem at_edwards_fe_same : prog.funcs[F_edwards_fe_same]? = some f_edwards_fe_same := func92
def F_edwards_fe_eighth : Nat := 93
noncomputable def f_edwards_fe_eighth : Func := f93
theorem at_edwards_fe_eighth : prog.funcs[F_edwards_fe_eighth]? = some f_edwards_fe_eighth := func93
def F_edwards_rootOfMinus1 : Nat := 94
noncomputable def f_edwards_rootOfMinus1 : Func := f94
theorem at_edwards_rootOfMinus1 : prog.funcs[F_edwards_rootOfMinus1]? = some f_edwards_rootOfMinus1 := func94
def F_scalar_mont : Nat := 95
noncomputable def f_scalar_mont : Func := f95
theorem at_scalar_mont : prog.funcs[F_scalar_mont]? = some f_scalar_mont := func95
def F_scalar_radix : Nat := 96
noncomputable def f_scalar_radix : Func := f96
theorem at_scalar_radix : prog.funcs[F_scalar_radix]? = some f_scalar_radix := func96
def F_sha512_Constants : Nat := 97
noncomputable def f_sha512_Constants : Func := f97
theorem at_sha512_Constants : prog.funcs[F_sha512_Constants]? = some f_sha512_Constants := func97
def F_sha512_begin : Nat := 98
noncomputable def f_sha512_begin : Func := f98
theorem at_sha512_begin : prog.funcs[F_sha512_begin]? = some f_sha512_begin := func98
def F_sha512_Hasher_made : Nat := 99
noncomputable def f_sha512_Hasher_made : Func := f99
theorem at_sha512_Hasher_made : prog.funcs[F_sha512_Hasher_made]? = some f_sha512_Hasher_made := func99
def F_sha512_block : Nat := 100
noncomputable def f_sha512_block : Func := f100
theorem at_sha512_block : prog.funcs[F_sha512_block]? = some f_sha512_block := func100
def F_sha512_pad : Nat := 101
noncomputable def f_sha512_pad : Func := f101
theorem at_sha512_pad : prog.funcs[F_sha512_pad]? = some f_sha512_pad := func101
def F_bits_Sub64 : Nat := 102
noncomputable def f_bits_Sub64 : Func := f102
theorem at_bits_Sub64 : prog.funcs[F_bits_Sub64]? = some f_bits_Sub64 := func102
def F_bits_Mul64 : Nat := 103
noncomputable def f_bits_Mul64 : Func := f103
theorem at_bits_Mul64 : prog.funcs[F_bits_Mul64]? = some f_bits_Mul64 := func103
def F_edwards_fe_chain : Nat := 104
noncomputable def f_edwards_fe_chain : Func := f104
theorem at_edwards_fe_chain : prog.funcs[F_edwards_fe_chain]? = some f_edwards_fe_chain := func104
def F_edwards_fe_squares : Nat := 105
noncomputable def f_edwards_fe_squares : Func := f105
theorem at_edwards_fe_squares : prog.funcs[F_edwards_fe_squares]? = some f_edwards_fe_squares := func105
def F_scalar_muladd : Nat := 106
noncomputable def f_scalar_muladd : Func := f106
theorem at_scalar_muladd : prog.funcs[F_scalar_muladd]? = some f_scalar_muladd := func106
def F_sha512_ror : Nat := 107
noncomputable def f_sha512_ror : Func := f107
theorem at_sha512_ror : prog.funcs[F_sha512_ror]? = some f_sha512_ror := func107
def F_bits_RotateLeft64 : Nat := 108
noncomputable def f_bits_RotateLeft64 : Func := f108
theorem at_bits_RotateLeft64 : prog.funcs[F_bits_RotateLeft64]? = some f_bits_RotateLeft64 := func108
end Go.Proofs.YtjebjiakggmjhaaGreat
