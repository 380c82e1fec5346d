/-
  The types and the functions of this program, by name.
-/
import Derived.Test.YtgjnfabhjbadoabProg
import Derived.Test.YtgjnfabhjbadoabAc
import Derived.KernelRfl
namespace Go.Proofs.Ytgjnfabhjbadoab
open Go.Proofs.Try
open Go Go.AM

def tt : TT :=
 .node 61 (.node 30 (.node 15 (.node 8 (.node 4 (.node 2 (.leaf 1 ⟨.other, 1, 8, [.one (.unk)], false⟩)
 (.node 3 (.leaf 2 ⟨.int .i64, 1, 8, [.ints .i64 1 (fun _ => 0)], false⟩)
 (.leaf 3 ⟨.int .i64, 1, 8, [.ints .i64 1 (fun _ => 0)], false⟩)))
 (.node 6 (.node 5 (.leaf 4 ⟨.bool, 1, 1, [.one (.bool false)], false⟩)
 (.leaf 5 ⟨.int .u8, 1, 1, [.ints .u8 1 (fun _ => 0)], false⟩))
 (.node 7 (.leaf 6 ⟨.int .u8, 1, 1, [.ints .u8 1 (fun _ => 0)], false⟩)
 (.leaf 7 ⟨.struct [(0, 2), (1, 3), (2, 4), (3, 6)], 4, 24, [.ints .i64 2 (fun _ => 0), .one (.bool false), .ints .u8 1 (fun _ => 0)], false⟩))))
 (.node 11 (.node 9 (.leaf 8 ⟨.struct [(0, 2), (1, 3), (2, 4), (3, 6)], 4, 24, [.ints .i64 2 (fun _ => 0), .one (.bool false), .ints .u8 1 (fun _ => 0)], false⟩)
 (.node 10 (.leaf 9 ⟨.str, 1, 16, [.one (.str ⟨#[]⟩)], false⟩)
 (.leaf 10 ⟨.str, 1, 16, [.one (.str ⟨#[]⟩)], false⟩)))
 (.node 13 (.node 12 (.leaf 11 ⟨.str, 1, 16, [.one (.str ⟨#[]⟩)], false⟩)
 (.leaf 12 ⟨.int .u64, 1, 8, [.ints .u64 1 (fun _ => 0)], false⟩))
 (.node 14 (.leaf 13 ⟨.struct [(0, 9), (1, 12)], 2, 24, [.one (.str ⟨#[]⟩), .ints .u64 1 (fun _ => 0)], false⟩)
 (.leaf 14 ⟨.struct [(0, 9), (1, 12)], 2, 24, [.one (.str ⟨#[]⟩), .ints .u64 1 (fun _ => 0)], false⟩)))))
 (.node 22 (.node 18 (.node 16 (.leaf 15 ⟨.ptr, 1, 8, [.one (.nilp)], false⟩)
 (.node 17 (.leaf 16 ⟨.ptr, 1, 8, [.one (.nilp)], false⟩)
 (.leaf 17 ⟨.ptr, 1, 8, [.one (.nilp)], false⟩)))
 (.node 20 (.node 19 (.leaf 18 ⟨.struct [(0, 17)], 1, 8, [.one (.nilp)], false⟩)
 (.leaf 19 ⟨.struct [(0, 17)], 1, 8, [.one (.nilp)], false⟩))
 (.node 21 (.leaf 20 ⟨.other, 1, 16, [.one (.raw .nilIface)], false⟩)
 (.leaf 21 ⟨.int .i32, 1, 4, [.ints .i32 1 (fun _ => 0)], false⟩))))
 (.node 26 (.node 24 (.node 23 (.leaf 22 ⟨.slice 5, 1, 24, [.one (.nils)], false⟩)
 (.leaf 23 ⟨.other, 1, 8, [.one (.unk)], false⟩))
 (.node 25 (.leaf 24 ⟨.arr 32 5, 32, 32, [.ints .u8 32 (fun _ => 0)], true⟩)
 (.leaf 25 ⟨.arr 32 5, 32, 32, [.ints .u8 32 (fun _ => 0)], true⟩)))
 (.node 28 (.node 27 (.leaf 26 ⟨.other, 1, 8, [.one (.unk)], false⟩)
 (.leaf 27 ⟨.arr 64 5, 64, 64, [.ints .u8 64 (fun _ => 0)], true⟩))
 (.node 29 (.leaf 28 ⟨.arr 64 5, 64, 64, [.ints .u8 64 (fun _ => 0)], true⟩)
 (.leaf 29 ⟨.other, 1, 8, [.one (.unk)], false⟩))))))
 (.node 45 (.node 38 (.node 34 (.node 31 (.leaf 30 ⟨.other, 1, 8, [.one (.unk)], false⟩)
 (.node 32 (.leaf 31 ⟨.arr 32 5, 32, 32, [.ints .u8 32 (fun _ => 0)], true⟩)
 (.leaf 32 ⟨.int .i64, 1, 8, [.ints .i64 1 (fun _ => 0)], false⟩)))
 (.node 36 (.node 35 (.leaf 34 ⟨.other, 1, 8, [.one (.unk)], false⟩)
 (.leaf 35 ⟨.other, 1, 8, [.one (.unk)], false⟩))
 (.node 37 (.leaf 36 ⟨.other, 1, 8, [.one (.unk)], false⟩)
 (.leaf 37 ⟨.slice 22, 1, 24, [.one (.nils)], false⟩))))
 (.node 41 (.node 39 (.leaf 38 ⟨.other, 1, 8, [.one (.unk)], false⟩)
 (.node 40 (.leaf 39 ⟨.other, 1, 8, [.one (.unk)], false⟩)
 (.leaf 40 ⟨.other, 1, 8, [.one (.unk)], false⟩)))
 (.node 43 (.node 42 (.leaf 41 ⟨.other, 1, 8, [.one (.unk)], false⟩)
 (.leaf 42 ⟨.other, 1, 8, [.one (.unk)], false⟩))
 (.node 44 (.leaf 43 ⟨.other, 1, 8, [.one (.unk)], false⟩)
 (.leaf 44 ⟨.other, 1, 8, [.one (.unk)], false⟩)))))
 (.node 52 (.node 48 (.node 46 (.leaf 45 ⟨.arr 5 9, 5, 80, [.one (.str ⟨#[]⟩), .one (.str ⟨#[]⟩), .one (.str ⟨#[]⟩), .one (.str ⟨#[]⟩), .one (.str ⟨#[]⟩)], false⟩)
 (.node 47 (.leaf 46 ⟨.other, 1, 8, [.one (.unk)], false⟩)
 (.leaf 47 ⟨.int .u64, 1, 8, [.ints .u64 1 (fun _ => 0)], false⟩)))
 (.node 50 (.node 49 (.leaf 48 ⟨.arr 4 47, 4, 32, [.ints .u64 4 (fun _ => 0)], true⟩)
 (.leaf 49 ⟨.arr 4 47, 4, 32, [.ints .u64 4 (fun _ => 0)], true⟩))
 (.node 51 (.leaf 50 ⟨.other, 1, 8, [.one (.unk)], false⟩)
 (.leaf 51 ⟨.other, 1, 8, [.one (.unk)], false⟩))))
 (.node 56 (.node 54 (.node 53 (.leaf 52 ⟨.arr 5 47, 5, 40, [.ints .u64 5 (fun _ => 0)], true⟩)
 (.leaf 53 ⟨.arr 5 47, 5, 40, [.ints .u64 5 (fun _ => 0)], true⟩))
 (.node 55 (.leaf 54 ⟨.struct [(0, 53), (5, 53), (10, 53), (15, 53)], 20, 160, [.ints .u64 20 (fun _ => 0)], true⟩)
 (.leaf 55 ⟨.struct [(0, 53), (5, 53), (10, 53), (15, 53)], 20, 160, [.ints .u64 20 (fun _ => 0)], true⟩)))
 (.node 58 (.node 57 (.leaf 56 ⟨.other, 1, 8, [.one (.unk)], false⟩)
 (.leaf 57 ⟨.other, 1, 8, [.one (.unk)], false⟩))
 (.node 60 (.leaf 58 ⟨.other, 1, 8, [.one (.unk)], false⟩)
 (.leaf 60 ⟨.other, 1, 8, [.one (.unk)], false⟩)))))))
 (.node 94 (.node 78 (.node 69 (.node 64 (.node 62 (.leaf 61 ⟨.ptr, 1, 8, [.one (.nilp)], false⟩)
 (.node 63 (.leaf 62 ⟨.other, 1, 8, [.one (.unk)], false⟩)
 (.leaf 63 ⟨.other, 1, 8, [.one (.unk)], false⟩)))
 (.node 67 (.node 66 (.leaf 64 ⟨.other, 1, 8, [.one (.unk)], false⟩)
 (.leaf 66 ⟨.other, 1, 8, [.one (.unk)], false⟩))
 (.node 68 (.leaf 67 ⟨.other, 1, 8, [.one (.unk)], false⟩)
 (.leaf 68 ⟨.other, 1, 8, [.one (.unk)], false⟩))))
 (.node 72 (.node 70 (.leaf 69 ⟨.arr 32 5, 32, 32, [.ints .u8 32 (fun _ => 0)], true⟩)
 (.node 71 (.leaf 70 ⟨.other, 1, 8, [.one (.unk)], false⟩)
 (.leaf 71 ⟨.other, 1, 8, [.one (.unk)], false⟩)))
 (.node 75 (.node 73 (.leaf 72 ⟨.arr 16 55, 320, 2560, [.ints .u64 320 (fun _ => 0)], true⟩)
 (.leaf 73 ⟨.other, 1, 8, [.one (.unk)], false⟩))
 (.node 76 (.leaf 75 ⟨.other, 1, 8, [.one (.unk)], false⟩)
 (.leaf 76 ⟨.other, 1, 8, [.one (.unk)], false⟩)))))
 (.node 85 (.node 81 (.node 79 (.leaf 78 ⟨.other, 1, 8, [.one (.unk)], false⟩)
 (.node 80 (.leaf 79 ⟨.other, 1, 8, [.one (.unk)], false⟩)
 (.leaf 80 ⟨.other, 1, 8, [.one (.unk)], false⟩)))
 (.node 83 (.node 82 (.leaf 81 ⟨.arr 80 47, 80, 640, [.ints .u64 80 (fun _ => 0)], true⟩)
 (.leaf 82 ⟨.other, 1, 8, [.one (.unk)], false⟩))
 (.node 84 (.leaf 83 ⟨.arr 8 47, 8, 64, [.ints .u64 8 (fun _ => 0)], true⟩)
 (.leaf 84 ⟨.other, 1, 8, [.one (.unk)], false⟩))))
 (.node 89 (.node 87 (.node 86 (.leaf 85 ⟨.ptr, 1, 8, [.one (.nilp)], false⟩)
 (.leaf 86 ⟨.struct [(0, 83), (8, 22), (9, 47), (10, 85)], 11, 104, [.ints .u64 8 (fun _ => 0), .one (.nils), .ints .u64 1 (fun _ => 0), .one (.nilp)], false⟩))
 (.node 88 (.leaf 87 ⟨.struct [(0, 83), (8, 22), (9, 47), (10, 85)], 11, 104, [.ints .u64 8 (fun _ => 0), .one (.nils), .ints .u64 1 (fun _ => 0), .one (.nilp)], false⟩)
 (.leaf 88 ⟨.other, 1, 8, [.one (.unk)], false⟩)))
 (.node 92 (.node 91 (.leaf 89 ⟨.other, 1, 8, [.one (.unk)], false⟩)
 (.leaf 91 ⟨.other, 1, 8, [.one (.unk)], false⟩))
 (.node 93 (.leaf 92 ⟨.int .u64, 1, 8, [.ints .u64 1 (fun _ => 0)], false⟩)
 (.leaf 93 ⟨.struct [(0, 47), (1, 47)], 2, 16, [.ints .u64 2 (fun _ => 0)], true⟩))))))
 (.node 109 (.node 102 (.node 97 (.node 95 (.leaf 94 ⟨.struct [(0, 47), (1, 47)], 2, 16, [.ints .u64 2 (fun _ => 0)], true⟩)
 (.node 96 (.leaf 95 ⟨.arr 5 94, 10, 80, [.ints .u64 10 (fun _ => 0)], true⟩)
 (.leaf 96 ⟨.other, 1, 8, [.one (.unk)], false⟩)))
 (.node 100 (.node 99 (.leaf 97 ⟨.other, 1, 8, [.one (.unk)], false⟩)
 (.leaf 99 ⟨.other, 1, 8, [.one (.unk)], false⟩))
 (.node 101 (.leaf 100 ⟨.other, 1, 8, [.one (.unk)], false⟩)
 (.leaf 101 ⟨.arr 6 47, 6, 48, [.ints .u64 6 (fun _ => 0)], true⟩))))
 (.node 105 (.node 103 (.leaf 102 ⟨.other, 1, 8, [.one (.unk)], false⟩)
 (.node 104 (.leaf 103 ⟨.other, 1, 8, [.one (.unk)], false⟩)
 (.leaf 104 ⟨.ptr, 1, 8, [.one (.nilp)], false⟩)))
 (.node 107 (.node 106 (.leaf 105 ⟨.other, 1, 8, [.one (.unk)], false⟩)
 (.leaf 106 ⟨.other, 1, 8, [.one (.unk)], false⟩))
 (.node 108 (.leaf 107 ⟨.other, 1, 8, [.one (.unk)], false⟩)
 (.leaf 108 ⟨.struct [(0, 17), (1, 17), (2, 17), (3, 9)], 4, 40, [.one (.nilp), .one (.nilp), .one (.nilp), .one (.str ⟨#[]⟩)], false⟩)))))
 (.node 116 (.node 112 (.node 110 (.leaf 109 ⟨.struct [(0, 17), (1, 17), (2, 17), (3, 9)], 4, 40, [.one (.nilp), .one (.nilp), .one (.nilp), .one (.str ⟨#[]⟩)], false⟩)
 (.node 111 (.leaf 110 ⟨.arr 0 16, 0, 0, [], false⟩)
 (.leaf 111 ⟨.struct [(0, 110)], 0, 0, [], false⟩)))
 (.node 114 (.node 113 (.leaf 112 ⟨.struct [(0, 110)], 0, 0, [], false⟩)
 (.leaf 113 ⟨.other, 1, 8, [.one (.unk)], false⟩))
 (.node 115 (.leaf 114 ⟨.int .u32, 1, 4, [.ints .u32 1 (fun _ => 0)], false⟩)
 (.leaf 115 ⟨.int .u8, 1, 1, [.ints .u8 1 (fun _ => 0)], false⟩))))
 (.node 120 (.node 118 (.node 117 (.leaf 116 ⟨.int .u8, 1, 1, [.ints .u8 1 (fun _ => 0)], false⟩)
 (.leaf 117 ⟨.other, 1, 8, [.one (.unk)], false⟩))
 (.node 119 (.leaf 118 ⟨.ptr, 1, 8, [.one (.nilp)], false⟩)
 (.leaf 119 ⟨.int .i32, 1, 4, [.ints .i32 1 (fun _ => 0)], false⟩)))
 (.node 122 (.node 121 (.leaf 120 ⟨.int .i32, 1, 4, [.ints .i32 1 (fun _ => 0)], false⟩)
 (.leaf 121 ⟨.struct [(0, 12), (1, 12), (2, 114), (3, 115), (4, 5), (5, 5), (6, 116), (7, 117), (8, 118), (9, 119), (10, 120)], 11, 48, [.ints .u64 2 (fun _ => 0), .ints .u32 1 (fun _ => 0), .ints .u8 4 (fun _ => 0), .one (.unk), .one (.nilp), .ints .i32 2 (fun _ => 0)], false⟩))
 (.node 123 (.leaf 122 ⟨.struct [(0, 12), (1, 12), (2, 114), (3, 115), (4, 5), (5, 5), (6, 116), (7, 117), (8, 118), (9, 119), (10, 120)], 11, 48, [.ints .u64 2 (fun _ => 0), .ints .u32 1 (fun _ => 0), .ints .u8 4 (fun _ => 0), .one (.unk), .one (.nilp), .ints .i32 2 (fun _ => 0)], false⟩)
 (.leaf 123 ⟨.other, 1, 8, [.one (.nilp)], false⟩)))))))

theorem tt_ok : tt.chk prog = true := by kernel_rfl
theorem mix : prog.follows .mixedOrders = true := by kernel_rfl

def F_rimelaw06_SuiteDivides : Nat := 3
noncomputable def f_rimelaw06_SuiteDivides : Func := f3
theorem at_rimelaw06_SuiteDivides : prog.funcs[F_rimelaw06_SuiteDivides]? = some f_rimelaw06_SuiteDivides := func3
def F_rimelaw06_works : Nat := 4
noncomputable def f_rimelaw06_works : Func := f4
theorem at_rimelaw06_works : prog.funcs[F_rimelaw06_works]? = some f_rimelaw06_works := func4
def F_suite_H1 : Nat := 5
noncomputable def f_suite_H1 : Func := f5
theorem at_suite_H1 : prog.funcs[F_suite_H1]? = some f_suite_H1 := func5
def F_suite_H2 : Nat := 6
noncomputable def f_suite_H2 : Func := f6
theorem at_suite_H2 : prog.funcs[F_suite_H2]? = some f_suite_H2 := func6
def F_suite_H3 : Nat := 7
noncomputable def f_suite_H3 : Func := f7
theorem at_suite_H3 : prog.funcs[F_suite_H3]? = some f_suite_H3 := func7
def F_suite_H4 : Nat := 8
noncomputable def f_suite_H4 : Func := f8
theorem at_suite_H4 : prog.funcs[F_suite_H4]? = some f_suite_H4 := func8
def F_suite_H5 : Nat := 9
noncomputable def f_suite_H5 : Func := f9
theorem at_suite_H5 : prog.funcs[F_suite_H5]? = some f_suite_H5 := func9
def F_suite_Exp : Nat := 10
noncomputable def f_suite_Exp : Func := f10
theorem at_suite_Exp : prog.funcs[F_suite_Exp]? = some f_suite_Exp := func10
def F_suite_GetElement : Nat := 11
noncomputable def f_suite_GetElement : Func := f11
theorem at_suite_GetElement : prog.funcs[F_suite_GetElement]? = some f_suite_GetElement := func11
def F_rimelaw06_num : Nat := 12
noncomputable def f_rimelaw06_num : Func := f12
theorem at_rimelaw06_num : prog.funcs[F_rimelaw06_num]? = some f_rimelaw06_num := func12
def F_suite_number : Nat := 13
noncomputable def f_suite_number : Func := f13
theorem at_suite_number : prog.funcs[F_suite_number]? = some f_suite_number := func13
def F_suite_hashed : Nat := 14
noncomputable def f_suite_hashed : Func := f14
theorem at_suite_hashed : prog.funcs[F_suite_hashed]? = some f_suite_hashed := func14
def F_scalar_Add : Nat := 15
noncomputable def f_scalar_Add : Func := f15
theorem at_scalar_Add : prog.funcs[F_scalar_Add]? = some f_scalar_Add := func15
def F_scalar_IsZero : Nat := 16
noncomputable def f_scalar_IsZero : Func := f16
theorem at_scalar_IsZero : prog.funcs[F_scalar_IsZero]? = some f_scalar_IsZero := func16
def F_edwards_MulBase : Nat := 17
noncomputable def f_edwards_MulBase : Func := f17
theorem at_edwards_MulBase : prog.funcs[F_edwards_MulBase]? = some f_edwards_MulBase := func17
def F_suite_group : Nat := 18
noncomputable def f_suite_group : Func := f18
theorem at_suite_group : prog.funcs[F_suite_group]? = some f_suite_group := func18
def F_scalar_Reduce : Nat := 19
noncomputable def f_scalar_Reduce : Func := f19
theorem at_scalar_Reduce : prog.funcs[F_scalar_Reduce]? = some f_scalar_Reduce := func19
def F_sha512_Join : Nat := 20
noncomputable def f_sha512_Join : Func := f20
theorem at_sha512_Join : prog.funcs[F_sha512_Join]? = some f_sha512_Join := func20
def F_scalar_back : Nat := 21
noncomputable def f_scalar_back : Func := f21
theorem at_scalar_back : prog.funcs[F_scalar_back]? = some f_scalar_back := func21
def F_scalar_plus : Nat := 22
noncomputable def f_scalar_plus : Func := f22
theorem at_scalar_plus : prog.funcs[F_scalar_plus]? = some f_scalar_plus := func22
def F_scalar_value : Nat := 23
noncomputable def f_scalar_value : Func := f23
theorem at_scalar_value : prog.funcs[F_scalar_value]? = some f_scalar_value := func23
def F_edwards_base : Nat := 24
noncomputable def f_edwards_base : Func := f24
theorem at_edwards_base : prog.funcs[F_edwards_base]? = some f_edwards_base := func24
def F_edwards_point_times : Nat := 25
noncomputable def f_edwards_point_times : Func := f25
theorem at_edwards_point_times : prog.funcs[F_edwards_point_times]? = some f_edwards_point_times := func25
def F_edwards_point_form : Nat := 26
noncomputable def f_edwards_point_form : Func := f26
theorem at_edwards_point_form : prog.funcs[F_edwards_point_form]? = some f_edwards_point_form := func26
def F_edwards_Check : Nat := 27
noncomputable def f_edwards_Check : Func := f27
theorem at_edwards_Check : prog.funcs[F_edwards_Check]? = some f_edwards_Check := func27
def F_edwards_Identity : Nat := 28
noncomputable def f_edwards_Identity : Func := f28
theorem at_edwards_Identity : prog.funcs[F_edwards_Identity]? = some f_edwards_Identity := func28
def F_edwards_IsPrime : Nat := 29
noncomputable def f_edwards_IsPrime : Func := f29
theorem at_edwards_IsPrime : prog.funcs[F_edwards_IsPrime]? = some f_edwards_IsPrime := func29
def F_scalar_times : Nat := 30
noncomputable def f_scalar_times : Func := f30
theorem at_scalar_times : prog.funcs[F_scalar_times]? = some f_scalar_times := func30
def F_scalar_from : Nat := 31
noncomputable def f_scalar_from : Func := f31
theorem at_scalar_from : prog.funcs[F_scalar_from]? = some f_scalar_from := func31
def F_sha512_New : Nat := 32
noncomputable def f_sha512_New : Func := f32
theorem at_sha512_New : prog.funcs[F_sha512_New]? = some f_sha512_New := func32
def F_sha512_Hasher_Write : Nat := 33
noncomputable def f_sha512_Hasher_Write : Func := f33
theorem at_sha512_Hasher_Write : prog.funcs[F_sha512_Hasher_Write]? = some f_sha512_Hasher_Write := func33
def F_sha512_Hasher_Sum : Nat := 34
noncomputable def f_sha512_Hasher_Sum : Func := f34
theorem at_sha512_Hasher_Sum : prog.funcs[F_sha512_Hasher_Sum]? = some f_sha512_Hasher_Sum := func34
def F_bits_Add64 : Nat := 35
noncomputable def f_bits_Add64 : Func := f35
theorem at_bits_Add64 : prog.funcs[F_bits_Add64]? = some f_bits_Add64 := func35
def F_scalar_lowered : Nat := 36
noncomputable def f_scalar_lowered : Func := f36
theorem at_scalar_lowered : prog.funcs[F_scalar_lowered]? = some f_scalar_lowered := func36
def F_edwards_load : Nat := 37
noncomputable def f_edwards_load : Func := f37
theorem at_edwards_load : prog.funcs[F_edwards_load]? = some f_edwards_load := func37
def F_edwards_small : Nat := 38
noncomputable def f_edwards_small : Func := f38
theorem at_edwards_small : prog.funcs[F_edwards_small]? = some f_edwards_small := func38
def F_edwards_fe_times : Nat := 39
noncomputable def f_edwards_fe_times : Func := f39
theorem at_edwards_fe_times : prog.funcs[F_edwards_fe_times]? = some f_edwards_fe_times := func39
def F_edwards_identity : Nat := 40
noncomputable def f_edwards_identity : Func := f40
theorem at_edwards_identity : prog.funcs[F_edwards_identity]? = some f_edwards_identity := func40
def F_edwards_point_plus : Nat := 41
noncomputable def f_edwards_point_plus : Func := f41
theorem at_edwards_point_plus : prog.funcs[F_edwards_point_plus]? = some f_edwards_point_plus := func41
def F_edwards_point_twice : Nat := 42
noncomputable def f_edwards_point_twice : Func := f42
theorem at_edwards_point_twice : prog.funcs[F_edwards_point_twice]? = some f_edwards_point_twice := func42
def F_edwards_point_xy : Nat := 43
noncomputable def f_edwards_point_xy : Func := f43
theorem at_edwards_point_xy : prog.funcs[F_edwards_point_xy]? = some f_edwards_point_xy := func43
def F_edwards_fe_bytes : Nat := 44
noncomputable def f_edwards_fe_bytes : Func := f44
theorem at_edwards_fe_bytes : prog.funcs[F_edwards_fe_bytes]? = some f_edwards_fe_bytes := func44
def F_edwards_fe_odd : Nat := 45
noncomputable def f_edwards_fe_odd : Func := f45
theorem at_edwards_fe_odd : prog.funcs[F_edwards_fe_odd]? = some f_edwards_fe_odd := func45
def F_edwards_open : Nat := 46
noncomputable def f_edwards_open : Func := f46
theorem at_edwards_open : prog.funcs[F_edwards_open]? = some f_edwards_open := func46
def F_edwards_order : Nat := 47
noncomputable def f_edwards_order : Func := f47
theorem at_edwards_order : prog.funcs[F_edwards_order]? = some f_edwards_order := func47
def F_edwards_point_isIdentity : Nat := 48
noncomputable def f_edwards_point_isIdentity : Func := f48
theorem at_edwards_point_isIdentity : prog.funcs[F_edwards_point_isIdentity]? = some f_edwards_point_isIdentity := func48
def F_scalar_mont : Nat := 49
noncomputable def f_scalar_mont : Func := f49
theorem at_scalar_mont : prog.funcs[F_scalar_mont]? = some f_scalar_mont := func49
def F_scalar_radix : Nat := 50
noncomputable def f_scalar_radix : Func := f50
theorem at_scalar_radix : prog.funcs[F_scalar_radix]? = some f_scalar_radix := func50
def F_sha512_Constants : Nat := 51
noncomputable def f_sha512_Constants : Func := f51
theorem at_sha512_Constants : prog.funcs[F_sha512_Constants]? = some f_sha512_Constants := func51
def F_sha512_begin : Nat := 52
noncomputable def f_sha512_begin : Func := f52
theorem at_sha512_begin : prog.funcs[F_sha512_begin]? = some f_sha512_begin := func52
def F_sha512_Hasher_made : Nat := 53
noncomputable def f_sha512_Hasher_made : Func := f53
theorem at_sha512_Hasher_made : prog.funcs[F_sha512_Hasher_made]? = some f_sha512_Hasher_made := func53
def F_sha512_block : Nat := 54
noncomputable def f_sha512_block : Func := f54
theorem at_sha512_block : prog.funcs[F_sha512_block]? = some f_sha512_block := func54
def F_sha512_pad : Nat := 55
noncomputable def f_sha512_pad : Func := f55
theorem at_sha512_pad : prog.funcs[F_sha512_pad]? = some f_sha512_pad := func55
def F_scalar_less : Nat := 56
noncomputable def f_scalar_less : Func := f56
theorem at_scalar_less : prog.funcs[F_scalar_less]? = some f_scalar_less := func56
def F_scalar_order : Nat := 57
noncomputable def f_scalar_order : Func := f57
theorem at_scalar_order : prog.funcs[F_scalar_order]? = some f_scalar_order := func57
def F_edwards_wide_add : Nat := 58
noncomputable def f_edwards_wide_add : Func := f58
theorem at_edwards_wide_add : prog.funcs[F_edwards_wide_add]? = some f_edwards_wide_add := func58
def F_edwards_carried : Nat := 59
noncomputable def f_edwards_carried : Func := f59
theorem at_edwards_carried : prog.funcs[F_edwards_carried]? = some f_edwards_carried := func59
def F_edwards_curve : Nat := 60
noncomputable def f_edwards_curve : Func := f60
theorem at_edwards_curve : prog.funcs[F_edwards_curve]? = some f_edwards_curve := func60
def F_edwards_fe_plus : Nat := 61
noncomputable def f_edwards_fe_plus : Func := f61
theorem at_edwards_fe_plus : prog.funcs[F_edwards_fe_plus]? = some f_edwards_fe_plus := func61
def F_edwards_fe_minus : Nat := 62
noncomputable def f_edwards_fe_minus : Func := f62
theorem at_edwards_fe_minus : prog.funcs[F_edwards_fe_minus]? = some f_edwards_fe_minus := func62
def F_edwards_fe_square : Nat := 63
noncomputable def f_edwards_fe_square : Func := f63
theorem at_edwards_fe_square : prog.funcs[F_edwards_fe_square]? = some f_edwards_fe_square := func63
def F_edwards_fe_inverse : Nat := 64
noncomputable def f_edwards_fe_inverse : Func := f64
theorem at_edwards_fe_inverse : prog.funcs[F_edwards_fe_inverse]? = some f_edwards_fe_inverse := func64
def F_edwards_root : Nat := 65
noncomputable def f_edwards_root : Func := f65
theorem at_edwards_root : prog.funcs[F_edwards_root]? = some f_edwards_root := func65
def F_edwards_fe_same : Nat := 66
noncomputable def f_edwards_fe_same : Func := f66
theorem at_edwards_fe_same : prog.funcs[F_edwards_fe_same]? = some f_edwards_fe_same := func66
def F_scalar_muladd : Nat := 67
noncomputable def f_scalar_muladd : Func := f67
theorem at_scalar_muladd : prog.funcs[F_scalar_muladd]? = some f_scalar_muladd := func67
def F_sha512_ror : Nat := 68
noncomputable def f_sha512_ror : Func := f68
theorem at_sha512_ror : prog.funcs[F_sha512_ror]? = some f_sha512_ror := func68
def F_bits_Sub64 : Nat := 69
noncomputable def f_bits_Sub64 : Func := f69
theorem at_bits_Sub64 : prog.funcs[F_bits_Sub64]? = some f_bits_Sub64 := func69
def F_bits_Mul64 : Nat := 70
noncomputable def f_bits_Mul64 : Func := f70
theorem at_bits_Mul64 : prog.funcs[F_bits_Mul64]? = some f_bits_Mul64 := func70
def F_edwards_fe_chain : Nat := 71
noncomputable def f_edwards_fe_chain : Func := f71
theorem at_edwards_fe_chain : prog.funcs[F_edwards_fe_chain]? = some f_edwards_fe_chain := func71
def F_edwards_fe_squares : Nat := 72
noncomputable def f_edwards_fe_squares : Func := f72
theorem at_edwards_fe_squares : prog.funcs[F_edwards_fe_squares]? = some f_edwards_fe_squares := func72
def F_edwards_fe_eighth : Nat := 73
noncomputable def f_edwards_fe_eighth : Func := f73
theorem at_edwards_fe_eighth : prog.funcs[F_edwards_fe_eighth]? = some f_edwards_fe_eighth := func73
def F_edwards_rootOfMinus1 : Nat := 74
noncomputable def f_edwards_rootOfMinus1 : Func := f74
theorem at_edwards_rootOfMinus1 : prog.funcs[F_edwards_rootOfMinus1]? = some f_edwards_rootOfMinus1 := func74
def F_bits_RotateLeft64 : Nat := 75
noncomputable def f_bits_RotateLeft64 : Func := f75
theorem at_bits_RotateLeft64 : prog.funcs[F_bits_RotateLeft64]? = some f_bits_RotateLeft64 := func75
end Go.Proofs.Ytgjnfabhjbadoab
