/-
  The types and the functions of this program, by name.
-/
import Derived.Test.YtkifoidhmipacaaGreatProg
import Derived.Test.YtkifoidhmipacaaGreatAc
import Derived.KernelRfl
namespace Go.Proofs.YtkifoidhmipacaaGreat
open Go.Proofs.Tryz
open Go Go.AM

def tt : TT :=
 .node 101 (.node 51 (.node 25 (.node 13 (.node 7 (.node 4 (.node 2 (.leaf 1 ⟨.other, 1, 8, [.one (.unk)], false⟩)
 (.node 3 (.leaf 2 ⟨.int .i64, 1, 8, [.ints .i64 1 (fun _ => 0)], false⟩)
 (.leaf 3 ⟨.int .i64, 1, 8, [.ints .i64 1 (fun _ => 0)], false⟩)))
 (.node 5 (.leaf 4 ⟨.bool, 1, 1, [.one (.bool false)], false⟩)
 (.node 6 (.leaf 5 ⟨.int .u8, 1, 1, [.ints .u8 1 (fun _ => 0)], false⟩)
 (.leaf 6 ⟨.int .u8, 1, 1, [.ints .u8 1 (fun _ => 0)], false⟩))))
 (.node 10 (.node 8 (.leaf 7 ⟨.struct [(0, 2), (1, 3), (2, 4), (3, 6)], 4, 24, [.ints .i64 2 (fun _ => 0), .one (.bool false), .ints .u8 1 (fun _ => 0)], false⟩)
 (.node 9 (.leaf 8 ⟨.struct [(0, 2), (1, 3), (2, 4), (3, 6)], 4, 24, [.ints .i64 2 (fun _ => 0), .one (.bool false), .ints .u8 1 (fun _ => 0)], false⟩)
 (.leaf 9 ⟨.str, 1, 16, [.one (.str ⟨#[]⟩)], false⟩)))
 (.node 11 (.leaf 10 ⟨.str, 1, 16, [.one (.str ⟨#[]⟩)], false⟩)
 (.node 12 (.leaf 11 ⟨.str, 1, 16, [.one (.str ⟨#[]⟩)], false⟩)
 (.leaf 12 ⟨.int .u64, 1, 8, [.ints .u64 1 (fun _ => 0)], false⟩)))))
 (.node 19 (.node 16 (.node 14 (.leaf 13 ⟨.struct [(0, 9), (1, 12)], 2, 24, [.one (.str ⟨#[]⟩), .ints .u64 1 (fun _ => 0)], false⟩)
 (.node 15 (.leaf 14 ⟨.struct [(0, 9), (1, 12)], 2, 24, [.one (.str ⟨#[]⟩), .ints .u64 1 (fun _ => 0)], false⟩)
 (.leaf 15 ⟨.ptr, 1, 8, [.one (.nilp)], false⟩)))
 (.node 17 (.leaf 16 ⟨.ptr, 1, 8, [.one (.nilp)], false⟩)
 (.node 18 (.leaf 17 ⟨.ptr, 1, 8, [.one (.nilp)], false⟩)
 (.leaf 18 ⟨.struct [(0, 17)], 1, 8, [.one (.nilp)], false⟩))))
 (.node 22 (.node 20 (.leaf 19 ⟨.struct [(0, 17)], 1, 8, [.one (.nilp)], false⟩)
 (.node 21 (.leaf 20 ⟨.other, 1, 16, [.one (.raw .nilIface)], false⟩)
 (.leaf 21 ⟨.int .i32, 1, 4, [.ints .i32 1 (fun _ => 0)], false⟩)))
 (.node 23 (.leaf 22 ⟨.arr 32 5, 32, 32, [.ints .u8 32 (fun _ => 0)], true⟩)
 (.node 24 (.leaf 23 ⟨.arr 32 5, 32, 32, [.ints .u8 32 (fun _ => 0)], true⟩)
 (.leaf 24 ⟨.slice 5, 1, 24, [.one (.nils)], false⟩))))))
 (.node 37 (.node 31 (.node 28 (.node 26 (.leaf 25 ⟨.slice 24, 1, 24, [.one (.nils)], false⟩)
 (.node 27 (.leaf 26 ⟨.slice 63, 1, 24, [.one (.nils)], false⟩)
 (.leaf 27 ⟨.slice 65, 1, 24, [.one (.nils)], false⟩)))
 (.node 29 (.leaf 28 ⟨.slice 67, 1, 24, [.one (.nils)], false⟩)
 (.node 30 (.leaf 29 ⟨.slice 69, 1, 24, [.one (.nils)], false⟩)
 (.leaf 30 ⟨.slice 71, 1, 24, [.one (.nils)], false⟩))))
 (.node 34 (.node 32 (.leaf 31 ⟨.slice 73, 1, 24, [.one (.nils)], false⟩)
 (.node 33 (.leaf 32 ⟨.slice 75, 1, 24, [.one (.nils)], false⟩)
 (.leaf 33 ⟨.slice 77, 1, 24, [.one (.nils)], false⟩)))
 (.node 35 (.leaf 34 ⟨.slice 79, 1, 24, [.one (.nils)], false⟩)
 (.node 36 (.leaf 35 ⟨.slice 81, 1, 24, [.one (.nils)], false⟩)
 (.leaf 36 ⟨.slice 83, 1, 24, [.one (.nils)], false⟩)))))
 (.node 43 (.node 40 (.node 38 (.leaf 37 ⟨.slice 85, 1, 24, [.one (.nils)], false⟩)
 (.node 39 (.leaf 38 ⟨.slice 87, 1, 24, [.one (.nils)], false⟩)
 (.leaf 39 ⟨.slice 89, 1, 24, [.one (.nils)], false⟩)))
 (.node 41 (.leaf 40 ⟨.struct [(0, 25), (1, 25), (2, 26), (3, 26), (4, 27), (5, 27), (6, 28), (7, 28), (8, 29), (9, 29), (10, 30), (11, 30), (12, 31), (13, 31), (14, 32), (15, 32), (16, 33), (17, 33), (18, 34), (19, 34), (20, 35), (21, 35), (22, 36), (23, 36), (24, 37), (25, 37), (26, 38), (27, 38), (28, 39), (29, 39)], 30, 720, [.one (.nils), .one (.nils), .one (.nils), .one (.nils), .one (.nils), .one (.nils), .one (.nils), .one (.nils), .one (.nils), .one (.nils), .one (.nils), .one (.nils), .one (.nils), .one (.nils), .one (.nils), .one (.nils), .one (.nils), .one (.nils), .one (.nils), .one (.nils), .one (.nils), .one (.nils), .one (.nils), .one (.nils), .one (.nils), .one (.nils), .one (.nils), .one (.nils), .one (.nils), .one (.nils)], false⟩)
 (.node 42 (.leaf 41 ⟨.struct [(0, 25), (1, 25), (2, 26), (3, 26), (4, 27), (5, 27), (6, 28), (7, 28), (8, 29), (9, 29), (10, 30), (11, 30), (12, 31), (13, 31), (14, 32), (15, 32), (16, 33), (17, 33), (18, 34), (19, 34), (20, 35), (21, 35), (22, 36), (23, 36), (24, 37), (25, 37), (26, 38), (27, 38), (28, 39), (29, 39)], 30, 720, [.one (.nils), .one (.nils), .one (.nils), .one (.nils), .one (.nils), .one (.nils), .one (.nils), .one (.nils), .one (.nils), .one (.nils), .one (.nils), .one (.nils), .one (.nils), .one (.nils), .one (.nils), .one (.nils), .one (.nils), .one (.nils), .one (.nils), .one (.nils), .one (.nils), .one (.nils), .one (.nils), .one (.nils), .one (.nils), .one (.nils), .one (.nils), .one (.nils), .one (.nils), .one (.nils)], false⟩)
 (.leaf 42 ⟨.other, 1, 8, [.one (.unk)], false⟩))))
 (.node 48 (.node 45 (.leaf 43 ⟨.int .i64, 1, 8, [.ints .i64 1 (fun _ => 0)], false⟩)
 (.node 47 (.leaf 45 ⟨.other, 1, 8, [.one (.unk)], false⟩)
 (.leaf 47 ⟨.other, 1, 8, [.one (.unk)], false⟩)))
 (.node 49 (.leaf 48 ⟨.other, 1, 8, [.one (.unk)], false⟩)
 (.node 50 (.leaf 49 ⟨.other, 1, 8, [.one (.unk)], false⟩)
 (.leaf 50 ⟨.other, 1, 8, [.one (.unk)], false⟩)))))))
 (.node 75 (.node 63 (.node 57 (.node 54 (.node 52 (.leaf 51 ⟨.other, 1, 8, [.one (.unk)], false⟩)
 (.node 53 (.leaf 52 ⟨.other, 1, 8, [.one (.unk)], false⟩)
 (.leaf 53 ⟨.other, 1, 8, [.one (.unk)], false⟩)))
 (.node 55 (.leaf 54 ⟨.other, 1, 8, [.one (.unk)], false⟩)
 (.node 56 (.leaf 55 ⟨.ptr, 1, 8, [.one (.nilp)], false⟩)
 (.leaf 56 ⟨.other, 1, 8, [.one (.unk)], false⟩))))
 (.node 60 (.node 58 (.leaf 57 ⟨.other, 1, 8, [.one (.unk)], false⟩)
 (.node 59 (.leaf 58 ⟨.int .u64, 1, 8, [.ints .u64 1 (fun _ => 0)], false⟩)
 (.leaf 59 ⟨.other, 1, 8, [.one (.unk)], false⟩)))
 (.node 61 (.leaf 60 ⟨.other, 1, 8, [.one (.unk)], false⟩)
 (.node 62 (.leaf 61 ⟨.other, 1, 8, [.one (.unk)], false⟩)
 (.leaf 62 ⟨.other, 1, 8, [.one (.unk)], false⟩)))))
 (.node 69 (.node 66 (.node 64 (.leaf 63 ⟨.slice 3, 1, 24, [.one (.nils)], false⟩)
 (.node 65 (.leaf 64 ⟨.other, 1, 8, [.one (.unk)], false⟩)
 (.leaf 65 ⟨.slice 101, 1, 24, [.one (.nils)], false⟩)))
 (.node 67 (.leaf 66 ⟨.other, 1, 8, [.one (.unk)], false⟩)
 (.node 68 (.leaf 67 ⟨.slice 106, 1, 24, [.one (.nils)], false⟩)
 (.leaf 68 ⟨.other, 1, 8, [.one (.unk)], false⟩))))
 (.node 72 (.node 70 (.leaf 69 ⟨.slice 23, 1, 24, [.one (.nils)], false⟩)
 (.node 71 (.leaf 70 ⟨.other, 1, 8, [.one (.unk)], false⟩)
 (.leaf 71 ⟨.slice 91, 1, 24, [.one (.nils)], false⟩)))
 (.node 73 (.leaf 72 ⟨.other, 1, 8, [.one (.unk)], false⟩)
 (.node 74 (.leaf 73 ⟨.slice 107, 1, 24, [.one (.nils)], false⟩)
 (.leaf 74 ⟨.other, 1, 8, [.one (.unk)], false⟩))))))
 (.node 87 (.node 81 (.node 78 (.node 76 (.leaf 75 ⟨.slice 108, 1, 24, [.one (.nils)], false⟩)
 (.node 77 (.leaf 76 ⟨.other, 1, 8, [.one (.unk)], false⟩)
 (.leaf 77 ⟨.slice 110, 1, 24, [.one (.nils)], false⟩)))
 (.node 79 (.leaf 78 ⟨.other, 1, 8, [.one (.unk)], false⟩)
 (.node 80 (.leaf 79 ⟨.slice 111, 1, 24, [.one (.nils)], false⟩)
 (.leaf 80 ⟨.other, 1, 8, [.one (.unk)], false⟩))))
 (.node 84 (.node 82 (.leaf 81 ⟨.slice 112, 1, 24, [.one (.nils)], false⟩)
 (.node 83 (.leaf 82 ⟨.other, 1, 8, [.one (.unk)], false⟩)
 (.leaf 83 ⟨.slice 114, 1, 24, [.one (.nils)], false⟩)))
 (.node 85 (.leaf 84 ⟨.other, 1, 8, [.one (.unk)], false⟩)
 (.node 86 (.leaf 85 ⟨.slice 116, 1, 24, [.one (.nils)], false⟩)
 (.leaf 86 ⟨.other, 1, 8, [.one (.unk)], false⟩)))))
 (.node 94 (.node 90 (.node 88 (.leaf 87 ⟨.slice 118, 1, 24, [.one (.nils)], false⟩)
 (.node 89 (.leaf 88 ⟨.other, 1, 8, [.one (.unk)], false⟩)
 (.leaf 89 ⟨.slice 120, 1, 24, [.one (.nils)], false⟩)))
 (.node 91 (.leaf 90 ⟨.other, 1, 8, [.one (.unk)], false⟩)
 (.node 93 (.leaf 91 ⟨.arr 32 5, 32, 32, [.ints .u8 32 (fun _ => 0)], true⟩)
 (.leaf 93 ⟨.other, 1, 8, [.one (.unk)], false⟩))))
 (.node 97 (.node 95 (.leaf 94 ⟨.other, 1, 8, [.one (.unk)], false⟩)
 (.node 96 (.leaf 95 ⟨.other, 1, 8, [.one (.unk)], false⟩)
 (.leaf 96 ⟨.arr 4 58, 4, 32, [.ints .u64 4 (fun _ => 0)], true⟩)))
 (.node 99 (.node 98 (.leaf 97 ⟨.arr 4 58, 4, 32, [.ints .u64 4 (fun _ => 0)], true⟩)
 (.leaf 98 ⟨.other, 1, 8, [.one (.unk)], false⟩))
 (.node 100 (.leaf 99 ⟨.other, 1, 8, [.one (.unk)], false⟩)
 (.leaf 100 ⟨.other, 1, 8, [.one (.unk)], false⟩))))))))
 (.node 152 (.node 125 (.node 113 (.node 107 (.node 104 (.node 102 (.leaf 101 ⟨.int .u32, 1, 4, [.ints .u32 1 (fun _ => 0)], false⟩)
 (.node 103 (.leaf 102 ⟨.arr 8 101, 8, 32, [.ints .u32 8 (fun _ => 0)], true⟩)
 (.leaf 103 ⟨.arr 8 101, 8, 32, [.ints .u32 8 (fun _ => 0)], true⟩)))
 (.node 105 (.leaf 104 ⟨.other, 1, 8, [.one (.unk)], false⟩)
 (.node 106 (.leaf 105 ⟨.other, 1, 8, [.one (.unk)], false⟩)
 (.leaf 106 ⟨.arr 32 5, 32, 32, [.ints .u8 32 (fun _ => 0)], true⟩))))
 (.node 110 (.node 108 (.leaf 107 ⟨.arr 32 5, 32, 32, [.ints .u8 32 (fun _ => 0)], true⟩)
 (.node 109 (.leaf 108 ⟨.arr 32 5, 32, 32, [.ints .u8 32 (fun _ => 0)], true⟩)
 (.leaf 109 ⟨.struct [(0, 3), (1, 23)], 33, 40, [.ints .i64 1 (fun _ => 0), .ints .u8 32 (fun _ => 0)], true⟩)))
 (.node 111 (.leaf 110 ⟨.struct [(0, 3), (1, 23)], 33, 40, [.ints .i64 1 (fun _ => 0), .ints .u8 32 (fun _ => 0)], true⟩)
 (.node 112 (.leaf 111 ⟨.struct [(0, 3), (1, 23)], 33, 40, [.ints .i64 1 (fun _ => 0), .ints .u8 32 (fun _ => 0)], true⟩)
 (.leaf 112 ⟨.struct [(0, 3), (1, 23)], 33, 40, [.ints .i64 1 (fun _ => 0), .ints .u8 32 (fun _ => 0)], true⟩)))))
 (.node 119 (.node 116 (.node 114 (.leaf 113 ⟨.struct [(0, 3), (1, 91), (33, 91)], 65, 72, [.ints .i64 1 (fun _ => 0), .ints .u8 64 (fun _ => 0)], true⟩)
 (.node 115 (.leaf 114 ⟨.struct [(0, 3), (1, 91), (33, 91)], 65, 72, [.ints .i64 1 (fun _ => 0), .ints .u8 64 (fun _ => 0)], true⟩)
 (.leaf 115 ⟨.struct [(0, 3), (1, 91)], 33, 40, [.ints .i64 1 (fun _ => 0), .ints .u8 32 (fun _ => 0)], true⟩)))
 (.node 117 (.leaf 116 ⟨.struct [(0, 3), (1, 91)], 33, 40, [.ints .i64 1 (fun _ => 0), .ints .u8 32 (fun _ => 0)], true⟩)
 (.node 118 (.leaf 117 ⟨.struct [(0, 3), (1, 3), (2, 23)], 34, 48, [.ints .i64 2 (fun _ => 0), .ints .u8 32 (fun _ => 0)], true⟩)
 (.leaf 118 ⟨.struct [(0, 3), (1, 3), (2, 23)], 34, 48, [.ints .i64 2 (fun _ => 0), .ints .u8 32 (fun _ => 0)], true⟩))))
 (.node 122 (.node 120 (.leaf 119 ⟨.struct [(0, 3), (1, 3)], 2, 16, [.ints .i64 2 (fun _ => 0)], true⟩)
 (.node 121 (.leaf 120 ⟨.struct [(0, 3), (1, 3)], 2, 16, [.ints .i64 2 (fun _ => 0)], true⟩)
 (.leaf 121 ⟨.other, 1, 8, [.one (.unk)], false⟩)))
 (.node 123 (.leaf 122 ⟨.arr 64 5, 64, 64, [.ints .u8 64 (fun _ => 0)], true⟩)
 (.node 124 (.leaf 123 ⟨.arr 64 5, 64, 64, [.ints .u8 64 (fun _ => 0)], true⟩)
 (.leaf 124 ⟨.other, 1, 8, [.one (.unk)], false⟩))))))
 (.node 139 (.node 133 (.node 129 (.node 126 (.leaf 125 ⟨.other, 1, 8, [.one (.unk)], false⟩)
 (.node 128 (.leaf 126 ⟨.other, 1, 8, [.one (.unk)], false⟩)
 (.leaf 128 ⟨.other, 1, 8, [.one (.unk)], false⟩)))
 (.node 130 (.leaf 129 ⟨.other, 1, 8, [.one (.unk)], false⟩)
 (.node 132 (.leaf 130 ⟨.other, 1, 8, [.one (.unk)], false⟩)
 (.leaf 132 ⟨.other, 1, 8, [.one (.unk)], false⟩))))
 (.node 136 (.node 134 (.leaf 133 ⟨.other, 1, 8, [.one (.unk)], false⟩)
 (.node 135 (.leaf 134 ⟨.int .u64, 1, 8, [.ints .u64 1 (fun _ => 0)], false⟩)
 (.leaf 135 ⟨.other, 1, 8, [.one (.unk)], false⟩)))
 (.node 137 (.leaf 136 ⟨.other, 1, 8, [.one (.unk)], false⟩)
 (.node 138 (.leaf 137 ⟨.other, 1, 8, [.one (.unk)], false⟩)
 (.leaf 138 ⟨.other, 1, 8, [.one (.unk)], false⟩)))))
 (.node 145 (.node 142 (.node 140 (.leaf 139 ⟨.arr 5 9, 5, 80, [.one (.str ⟨#[]⟩), .one (.str ⟨#[]⟩), .one (.str ⟨#[]⟩), .one (.str ⟨#[]⟩), .one (.str ⟨#[]⟩)], false⟩)
 (.node 141 (.leaf 140 ⟨.other, 1, 8, [.one (.unk)], false⟩)
 (.leaf 141 ⟨.arr 5 58, 5, 40, [.ints .u64 5 (fun _ => 0)], true⟩)))
 (.node 143 (.leaf 142 ⟨.arr 5 58, 5, 40, [.ints .u64 5 (fun _ => 0)], true⟩)
 (.node 144 (.leaf 143 ⟨.struct [(0, 142), (5, 142), (10, 142), (15, 142)], 20, 160, [.ints .u64 20 (fun _ => 0)], true⟩)
 (.leaf 144 ⟨.struct [(0, 142), (5, 142), (10, 142), (15, 142)], 20, 160, [.ints .u64 20 (fun _ => 0)], true⟩))))
 (.node 149 (.node 146 (.leaf 145 ⟨.other, 1, 8, [.one (.unk)], false⟩)
 (.node 147 (.leaf 146 ⟨.other, 1, 8, [.one (.unk)], false⟩)
 (.leaf 147 ⟨.other, 1, 8, [.one (.unk)], false⟩)))
 (.node 150 (.leaf 149 ⟨.other, 1, 8, [.one (.unk)], false⟩)
 (.node 151 (.leaf 150 ⟨.arr 6 58, 6, 48, [.ints .u64 6 (fun _ => 0)], true⟩)
 (.leaf 151 ⟨.other, 1, 8, [.one (.unk)], false⟩)))))))
 (.node 178 (.node 166 (.node 158 (.node 155 (.node 153 (.leaf 152 ⟨.ptr, 1, 8, [.one (.nilp)], false⟩)
 (.node 154 (.leaf 153 ⟨.other, 1, 8, [.one (.unk)], false⟩)
 (.leaf 154 ⟨.other, 1, 8, [.one (.unk)], false⟩)))
 (.node 156 (.leaf 155 ⟨.other, 1, 8, [.one (.unk)], false⟩)
 (.node 157 (.leaf 156 ⟨.other, 1, 8, [.one (.unk)], false⟩)
 (.leaf 157 ⟨.other, 1, 8, [.one (.unk)], false⟩))))
 (.node 162 (.node 159 (.leaf 158 ⟨.other, 1, 8, [.one (.unk)], false⟩)
 (.node 160 (.leaf 159 ⟨.arr 16 144, 320, 2560, [.ints .u64 320 (fun _ => 0)], true⟩)
 (.leaf 160 ⟨.other, 1, 8, [.one (.unk)], false⟩)))
 (.node 163 (.leaf 162 ⟨.other, 1, 8, [.one (.unk)], false⟩)
 (.node 165 (.leaf 163 ⟨.other, 1, 8, [.one (.unk)], false⟩)
 (.leaf 165 ⟨.other, 1, 8, [.one (.unk)], false⟩)))))
 (.node 172 (.node 169 (.node 167 (.leaf 166 ⟨.other, 1, 8, [.one (.unk)], false⟩)
 (.node 168 (.leaf 167 ⟨.other, 1, 8, [.one (.unk)], false⟩)
 (.leaf 168 ⟨.arr 80 58, 80, 640, [.ints .u64 80 (fun _ => 0)], true⟩)))
 (.node 170 (.leaf 169 ⟨.other, 1, 8, [.one (.unk)], false⟩)
 (.node 171 (.leaf 170 ⟨.arr 8 58, 8, 64, [.ints .u64 8 (fun _ => 0)], true⟩)
 (.leaf 171 ⟨.other, 1, 8, [.one (.unk)], false⟩))))
 (.node 175 (.node 173 (.leaf 172 ⟨.ptr, 1, 8, [.one (.nilp)], false⟩)
 (.node 174 (.leaf 173 ⟨.struct [(0, 170), (8, 24), (9, 58), (10, 172)], 11, 104, [.ints .u64 8 (fun _ => 0), .one (.nils), .ints .u64 1 (fun _ => 0), .one (.nilp)], false⟩)
 (.leaf 174 ⟨.struct [(0, 170), (8, 24), (9, 58), (10, 172)], 11, 104, [.ints .u64 8 (fun _ => 0), .one (.nils), .ints .u64 1 (fun _ => 0), .one (.nilp)], false⟩)))
 (.node 176 (.leaf 175 ⟨.other, 1, 8, [.one (.unk)], false⟩)
 (.node 177 (.leaf 176 ⟨.other, 1, 8, [.one (.unk)], false⟩)
 (.leaf 177 ⟨.struct [(0, 58), (1, 58)], 2, 16, [.ints .u64 2 (fun _ => 0)], true⟩))))))
 (.node 191 (.node 185 (.node 181 (.node 179 (.leaf 178 ⟨.struct [(0, 58), (1, 58)], 2, 16, [.ints .u64 2 (fun _ => 0)], true⟩)
 (.node 180 (.leaf 179 ⟨.arr 5 178, 10, 80, [.ints .u64 10 (fun _ => 0)], true⟩)
 (.leaf 180 ⟨.other, 1, 8, [.one (.unk)], false⟩)))
 (.node 183 (.leaf 181 ⟨.other, 1, 8, [.one (.unk)], false⟩)
 (.node 184 (.leaf 183 ⟨.other, 1, 8, [.one (.unk)], false⟩)
 (.leaf 184 ⟨.other, 1, 8, [.one (.unk)], false⟩))))
 (.node 188 (.node 186 (.leaf 185 ⟨.other, 1, 8, [.one (.unk)], false⟩)
 (.node 187 (.leaf 186 ⟨.ptr, 1, 8, [.one (.nilp)], false⟩)
 (.leaf 187 ⟨.other, 1, 8, [.one (.unk)], false⟩)))
 (.node 189 (.leaf 188 ⟨.other, 1, 8, [.one (.unk)], false⟩)
 (.node 190 (.leaf 189 ⟨.struct [(0, 17), (1, 17), (2, 17), (3, 9)], 4, 40, [.one (.nilp), .one (.nilp), .one (.nilp), .one (.str ⟨#[]⟩)], false⟩)
 (.leaf 190 ⟨.struct [(0, 17), (1, 17), (2, 17), (3, 9)], 4, 40, [.one (.nilp), .one (.nilp), .one (.nilp), .one (.str ⟨#[]⟩)], false⟩)))))
 (.node 197 (.node 194 (.node 192 (.leaf 191 ⟨.arr 0 16, 0, 0, [], false⟩)
 (.node 193 (.leaf 192 ⟨.struct [(0, 191)], 0, 0, [], false⟩)
 (.leaf 193 ⟨.struct [(0, 191)], 0, 0, [], false⟩)))
 (.node 195 (.leaf 194 ⟨.other, 1, 8, [.one (.unk)], false⟩)
 (.node 196 (.leaf 195 ⟨.int .u8, 1, 1, [.ints .u8 1 (fun _ => 0)], false⟩)
 (.leaf 196 ⟨.int .u8, 1, 1, [.ints .u8 1 (fun _ => 0)], false⟩))))
 (.node 200 (.node 198 (.leaf 197 ⟨.other, 1, 8, [.one (.unk)], false⟩)
 (.node 199 (.leaf 198 ⟨.ptr, 1, 8, [.one (.nilp)], false⟩)
 (.leaf 199 ⟨.int .i32, 1, 4, [.ints .i32 1 (fun _ => 0)], false⟩)))
 (.node 202 (.node 201 (.leaf 200 ⟨.int .i32, 1, 4, [.ints .i32 1 (fun _ => 0)], false⟩)
 (.leaf 201 ⟨.struct [(0, 12), (1, 12), (2, 101), (3, 195), (4, 5), (5, 5), (6, 196), (7, 197), (8, 198), (9, 199), (10, 200)], 11, 48, [.ints .u64 2 (fun _ => 0), .ints .u32 1 (fun _ => 0), .ints .u8 4 (fun _ => 0), .one (.unk), .one (.nilp), .ints .i32 2 (fun _ => 0)], false⟩))
 (.node 203 (.leaf 202 ⟨.struct [(0, 12), (1, 12), (2, 101), (3, 195), (4, 5), (5, 5), (6, 196), (7, 197), (8, 198), (9, 199), (10, 200)], 11, 48, [.ints .u64 2 (fun _ => 0), .ints .u32 1 (fun _ => 0), .ints .u8 4 (fun _ => 0), .one (.unk), .one (.nilp), .ints .i32 2 (fun _ => 0)], false⟩)
 (.leaf 203 ⟨.other, 1, 8, [.one (.nilp)], false⟩))))))))

theorem tt_ok : tt.chk prog = true := by kernel_rfl
theorem mix : prog.follows .mixedOrders = true := by kernel_rfl

def F_rimelaw06_SuiteScalars : Nat := 3
noncomputable def f_rimelaw06_SuiteScalars : Func := f3
theorem at_rimelaw06_SuiteScalars : prog.funcs[F_rimelaw06_SuiteScalars]? = some f_rimelaw06_SuiteScalars := func3
def F_rimeplain_Given_Bytes : Nat := 4
noncomputable def f_rimeplain_Given_Bytes : Func := f4
theorem at_rimeplain_Given_Bytes : prog.funcs[F_rimeplain_Given_Bytes]? = some f_rimeplain_Given_Bytes := func4
def F_suite_GetScalar : Nat := 5
noncomputable def f_suite_GetScalar : Func := f5
theorem at_suite_GetScalar : prog.funcs[F_suite_GetScalar]? = some f_suite_GetScalar := func5
def F_rimeref06_GetScalar : Nat := 6
noncomputable def f_rimeref06_GetScalar : Func := f6
theorem at_rimeref06_GetScalar : prog.funcs[F_rimeref06_GetScalar]? = some f_rimeref06_GetScalar := func6
def F_suite_ID : Nat := 7
noncomputable def f_suite_ID : Func := f7
theorem at_suite_ID : prog.funcs[F_suite_ID]? = some f_suite_ID := func7
def F_rimeref06_ID : Nat := 8
noncomputable def f_rimeref06_ID : Func := f8
theorem at_rimeref06_ID : prog.funcs[F_rimeref06_ID]? = some f_rimeref06_ID := func8
def F_suite_Random : Nat := 9
noncomputable def f_suite_Random : Func := f9
theorem at_suite_Random : prog.funcs[F_suite_Random]? = some f_suite_Random := func9
def F_rimeref06_Random : Nat := 10
noncomputable def f_rimeref06_Random : Func := f10
theorem at_rimeref06_Random : prog.funcs[F_rimeref06_Random]? = some f_rimeref06_Random := func10
def F_rimeplain_SameBytes : Nat := 11
noncomputable def f_rimeplain_SameBytes : Func := f11
theorem at_rimeplain_SameBytes : prog.funcs[F_rimeplain_SameBytes]? = some f_rimeplain_SameBytes := func11
def F_suite_PutScalar : Nat := 12
noncomputable def f_suite_PutScalar : Func := f12
theorem at_suite_PutScalar : prog.funcs[F_suite_PutScalar]? = some f_suite_PutScalar := func12
def F_rimeref06_PutScalar : Nat := 13
noncomputable def f_rimeref06_PutScalar : Func := f13
theorem at_rimeref06_PutScalar : prog.funcs[F_rimeref06_PutScalar]? = some f_rimeref06_PutScalar := func13
def F_rimelaw06_num : Nat := 14
noncomputable def f_rimelaw06_num : Func := f14
theorem at_rimelaw06_num : prog.funcs[F_rimelaw06_num]? = some f_rimelaw06_num := func14
def F_rimeplain_Given_Intact : Nat := 15
noncomputable def f_rimeplain_Given_Intact : Func := f15
theorem at_rimeplain_Given_Intact : prog.funcs[F_rimeplain_Given_Intact]? = some f_rimeplain_Given_Intact := func15
def F_rimelaw06_works : Nat := 16
noncomputable def f_rimelaw06_works : Func := f16
theorem at_rimelaw06_works : prog.funcs[F_rimelaw06_works]? = some f_rimelaw06_works := func16
def F_rimeplain_markBytes : Nat := 17
noncomputable def f_rimeplain_markBytes : Func := f17
theorem at_rimeplain_markBytes : prog.funcs[F_rimeplain_markBytes]? = some f_rimeplain_markBytes := func17
def F_rimeplain_CopyBytes : Nat := 18
noncomputable def f_rimeplain_CopyBytes : Func := f18
theorem at_rimeplain_CopyBytes : prog.funcs[F_rimeplain_CopyBytes]? = some f_rimeplain_CopyBytes := func18
def F_scalar_Decode : Nat := 19
noncomputable def f_scalar_Decode : Func := f19
theorem at_scalar_Decode : prog.funcs[F_scalar_Decode]? = some f_scalar_Decode := func19
def F_rimeref02_Decode : Nat := 20
noncomputable def f_rimeref02_Decode : Func := f20
theorem at_rimeref02_Decode : prog.funcs[F_rimeref02_Decode]? = some f_rimeref02_Decode := func20
def F_scalar_FromInt : Nat := 21
noncomputable def f_scalar_FromInt : Func := f21
theorem at_scalar_FromInt : prog.funcs[F_scalar_FromInt]? = some f_scalar_FromInt := func21
def F_scalar_Reduce : Nat := 22
noncomputable def f_scalar_Reduce : Func := f22
theorem at_scalar_Reduce : prog.funcs[F_scalar_Reduce]? = some f_scalar_Reduce := func22
def F_scalar_IsZero : Nat := 23
noncomputable def f_scalar_IsZero : Func := f23
theorem at_scalar_IsZero : prog.funcs[F_scalar_IsZero]? = some f_scalar_IsZero := func23
def F_rimeref02_Reduce : Nat := 24
noncomputable def f_rimeref02_Reduce : Func := f24
theorem at_rimeref02_Reduce : prog.funcs[F_rimeref02_Reduce]? = some f_rimeref02_Reduce := func24
def F_scalar_Add : Nat := 25
noncomputable def f_scalar_Add : Func := f25
theorem at_scalar_Add : prog.funcs[F_scalar_Add]? = some f_scalar_Add := func25
def F_rimeplain_SameInts : Nat := 26
noncomputable def f_rimeplain_SameInts : Func := f26
theorem at_rimeplain_SameInts : prog.funcs[F_rimeplain_SameInts]? = some f_rimeplain_SameInts := func26
def F_rimeplain_SamePath : Nat := 27
noncomputable def f_rimeplain_SamePath : Func := f27
theorem at_rimeplain_SamePath : prog.funcs[F_rimeplain_SamePath]? = some f_rimeplain_SamePath := func27
def F_rimeplain_SameFes : Nat := 28
noncomputable def f_rimeplain_SameFes : Func := f28
theorem at_rimeplain_SameFes : prog.funcs[F_rimeplain_SameFes]? = some f_rimeplain_SameFes := func28
def F_rimeplain_SameScalars : Nat := 29
noncomputable def f_rimeplain_SameScalars : Func := f29
theorem at_rimeplain_SameScalars : prog.funcs[F_rimeplain_SameScalars]? = some f_rimeplain_SameScalars := func29
def F_rimeplain_SameElements : Nat := 30
noncomputable def f_rimeplain_SameElements : Func := f30
theorem at_rimeplain_SameElements : prog.funcs[F_rimeplain_SameElements]? = some f_rimeplain_SameElements := func30
def F_rimeplain_SameRandoms : Nat := 31
noncomputable def f_rimeplain_SameRandoms : Func := f31
theorem at_rimeplain_SameRandoms : prog.funcs[F_rimeplain_SameRandoms]? = some f_rimeplain_SameRandoms := func31
def F_rimeplain_SameHashes : Nat := 32
noncomputable def f_rimeplain_SameHashes : Func := f32
theorem at_rimeplain_SameHashes : prog.funcs[F_rimeplain_SameHashes]? = some f_rimeplain_SameHashes := func32
def F_rimeplain_SameShares : Nat := 33
noncomputable def f_rimeplain_SameShares : Func := f33
theorem at_rimeplain_SameShares : prog.funcs[F_rimeplain_SameShares]? = some f_rimeplain_SameShares := func33
def F_rimeplain_SameSigShares : Nat := 34
noncomputable def f_rimeplain_SameSigShares : Func := f34
theorem at_rimeplain_SameSigShares : prog.funcs[F_rimeplain_SameSigShares]? = some f_rimeplain_SameSigShares := func34
def F_rimeplain_SameFactors : Nat := 35
noncomputable def f_rimeplain_SameFactors : Func := f35
theorem at_rimeplain_SameFactors : prog.funcs[F_rimeplain_SameFactors]? = some f_rimeplain_SameFactors := func35
def F_rimeplain_SameCommitments : Nat := 36
noncomputable def f_rimeplain_SameCommitments : Func := f36
theorem at_rimeplain_SameCommitments : prog.funcs[F_rimeplain_SameCommitments]? = some f_rimeplain_SameCommitments := func36
def F_rimeplain_SamePublics : Nat := 37
noncomputable def f_rimeplain_SamePublics : Func := f37
theorem at_rimeplain_SamePublics : prog.funcs[F_rimeplain_SamePublics]? = some f_rimeplain_SamePublics := func37
def F_rimeplain_SameSecrets : Nat := 38
noncomputable def f_rimeplain_SameSecrets : Func := f38
theorem at_rimeplain_SameSecrets : prog.funcs[F_rimeplain_SameSecrets]? = some f_rimeplain_SameSecrets := func38
def F_rimeplain_SameComplaints : Nat := 39
noncomputable def f_rimeplain_SameComplaints : Func := f39
theorem at_rimeplain_SameComplaints : prog.funcs[F_rimeplain_SameComplaints]? = some f_rimeplain_SameComplaints := func39
def F_suite_H1 : Nat := 40
noncomputable def f_suite_H1 : Func := f40
theorem at_suite_H1 : prog.funcs[F_suite_H1]? = some f_suite_H1 := func40
def F_suite_Exp : Nat := 41
noncomputable def f_suite_Exp : Func := f41
theorem at_suite_Exp : prog.funcs[F_suite_Exp]? = some f_suite_Exp := func41
def F_suite_GetElement : Nat := 42
noncomputable def f_suite_GetElement : Func := f42
theorem at_suite_GetElement : prog.funcs[F_suite_GetElement]? = some f_suite_GetElement := func42
def F_scalar_Canonical : Nat := 43
noncomputable def f_scalar_Canonical : Func := f43
theorem at_scalar_Canonical : prog.funcs[F_scalar_Canonical]? = some f_scalar_Canonical := func43
def F_rimeref02_Canonical : Nat := 44
noncomputable def f_rimeref02_Canonical : Func := f44
theorem at_rimeref02_Canonical : prog.funcs[F_rimeref02_Canonical]? = some f_rimeref02_Canonical := func44
def F_scalar_back : Nat := 45
noncomputable def f_scalar_back : Func := f45
theorem at_scalar_back : prog.funcs[F_scalar_back]? = some f_scalar_back := func45
def F_scalar_plus : Nat := 46
noncomputable def f_scalar_plus : Func := f46
theorem at_scalar_plus : prog.funcs[F_scalar_plus]? = some f_scalar_plus := func46
def F_scalar_times : Nat := 47
noncomputable def f_scalar_times : Func := f47
theorem at_scalar_times : prog.funcs[F_scalar_times]? = some f_scalar_times := func47
def F_scalar_from : Nat := 48
noncomputable def f_scalar_from : Func := f48
theorem at_scalar_from : prog.funcs[F_scalar_from]? = some f_scalar_from := func48
def F_scalar_value : Nat := 49
noncomputable def f_scalar_value : Func := f49
theorem at_scalar_value : prog.funcs[F_scalar_value]? = some f_scalar_value := func49
def F_rimeref02_Back : Nat := 50
noncomputable def f_rimeref02_Back : Func := f50
theorem at_rimeref02_Back : prog.funcs[F_rimeref02_Back]? = some f_rimeref02_Back := func50
def F_rimeref02_mod : Nat := 51
noncomputable def f_rimeref02_mod : Func := f51
theorem at_rimeref02_mod : prog.funcs[F_rimeref02_mod]? = some f_rimeref02_mod := func51
def F_rimeref02_digits : Nat := 52
noncomputable def f_rimeref02_digits : Func := f52
theorem at_rimeref02_digits : prog.funcs[F_rimeref02_digits]? = some f_rimeref02_digits := func52
def F_suite_number : Nat := 53
noncomputable def f_suite_number : Func := f53
theorem at_suite_number : prog.funcs[F_suite_number]? = some f_suite_number := func53
def F_suite_hashed : Nat := 54
noncomputable def f_suite_hashed : Func := f54
theorem at_suite_hashed : prog.funcs[F_suite_hashed]? = some f_suite_hashed := func54
def F_edwards_MulBase : Nat := 55
noncomputable def f_edwards_MulBase : Func := f55
theorem at_edwards_MulBase : prog.funcs[F_edwards_MulBase]? = some f_edwards_MulBase := func55
def F_suite_group : Nat := 56
noncomputable def f_suite_group : Func := f56
theorem at_suite_group : prog.funcs[F_suite_group]? = some f_suite_group := func56
def F_scalar_less : Nat := 57
noncomputable def f_scalar_less : Func := f57
theorem at_scalar_less : prog.funcs[F_scalar_less]? = some f_scalar_less := func57
def F_scalar_order : Nat := 58
noncomputable def f_scalar_order : Func := f58
theorem at_scalar_order : prog.funcs[F_scalar_order]? = some f_scalar_order := func58
def F_rimeref02_Value : Nat := 59
noncomputable def f_rimeref02_Value : Func := f59
theorem at_rimeref02_Value : prog.funcs[F_rimeref02_Value]? = some f_rimeref02_Value := func59
def F_bits_Add64 : Nat := 60
noncomputable def f_bits_Add64 : Func := f60
theorem at_bits_Add64 : prog.funcs[F_bits_Add64]? = some f_bits_Add64 := func60
def F_scalar_lowered : Nat := 61
noncomputable def f_scalar_lowered : Func := f61
theorem at_scalar_lowered : prog.funcs[F_scalar_lowered]? = some f_scalar_lowered := func61
def F_scalar_mont : Nat := 62
noncomputable def f_scalar_mont : Func := f62
theorem at_scalar_mont : prog.funcs[F_scalar_mont]? = some f_scalar_mont := func62
def F_scalar_radix : Nat := 63
noncomputable def f_scalar_radix : Func := f63
theorem at_scalar_radix : prog.funcs[F_scalar_radix]? = some f_scalar_radix := func63
def F_rimeref02_Order : Nat := 64
noncomputable def f_rimeref02_Order : Func := f64
theorem at_rimeref02_Order : prog.funcs[F_rimeref02_Order]? = some f_rimeref02_Order := func64
def F_rimeref02_twice : Nat := 65
noncomputable def f_rimeref02_twice : Func := f65
theorem at_rimeref02_twice : prog.funcs[F_rimeref02_twice]? = some f_rimeref02_twice := func65
def F_rimeref02_below : Nat := 66
noncomputable def f_rimeref02_below : Func := f66
theorem at_rimeref02_below : prog.funcs[F_rimeref02_below]? = some f_rimeref02_below := func66
def F_rimeref02_minus : Nat := 67
noncomputable def f_rimeref02_minus : Func := f67
theorem at_rimeref02_minus : prog.funcs[F_rimeref02_minus]? = some f_rimeref02_minus := func67
def F_sha512_Join : Nat := 68
noncomputable def f_sha512_Join : Func := f68
theorem at_sha512_Join : prog.funcs[F_sha512_Join]? = some f_sha512_Join := func68
def F_edwards_base : Nat := 69
noncomputable def f_edwards_base : Func := f69
theorem at_edwards_base : prog.funcs[F_edwards_base]? = some f_edwards_base := func69
def F_edwards_point_times : Nat := 70
noncomputable def f_edwards_point_times : Func := f70
theorem at_edwards_point_times : prog.funcs[F_edwards_point_times]? = some f_edwards_point_times := func70
def F_edwards_point_form : Nat := 71
noncomputable def f_edwards_point_form : Func := f71
theorem at_edwards_point_form : prog.funcs[F_edwards_point_form]? = some f_edwards_point_form := func71
def F_edwards_Check : Nat := 72
noncomputable def f_edwards_Check : Func := f72
theorem at_edwards_Check : prog.funcs[F_edwards_Check]? = some f_edwards_Check := func72
def F_edwards_Identity : Nat := 73
noncomputable def f_edwards_Identity : Func := f73
theorem at_edwards_Identity : prog.funcs[F_edwards_Identity]? = some f_edwards_Identity := func73
def F_edwards_IsPrime : Nat := 74
noncomputable def f_edwards_IsPrime : Func := f74
theorem at_edwards_IsPrime : prog.funcs[F_edwards_IsPrime]? = some f_edwards_IsPrime := func74
def F_bits_Sub64 : Nat := 75
noncomputable def f_bits_Sub64 : Func := f75
theorem at_bits_Sub64 : prog.funcs[F_bits_Sub64]? = some f_bits_Sub64 := func75
def F_scalar_muladd : Nat := 76
noncomputable def f_scalar_muladd : Func := f76
theorem at_scalar_muladd : prog.funcs[F_scalar_muladd]? = some f_scalar_muladd := func76
def F_sha512_New : Nat := 77
noncomputable def f_sha512_New : Func := f77
theorem at_sha512_New : prog.funcs[F_sha512_New]? = some f_sha512_New := func77
def F_sha512_Hasher_Write : Nat := 78
noncomputable def f_sha512_Hasher_Write : Func := f78
theorem at_sha512_Hasher_Write : prog.funcs[F_sha512_Hasher_Write]? = some f_sha512_Hasher_Write := func78
def F_sha512_Hasher_Sum : Nat := 79
noncomputable def f_sha512_Hasher_Sum : Func := f79
theorem at_sha512_Hasher_Sum : prog.funcs[F_sha512_Hasher_Sum]? = some f_sha512_Hasher_Sum := func79
def F_edwards_load : Nat := 80
noncomputable def f_edwards_load : Func := f80
theorem at_edwards_load : prog.funcs[F_edwards_load]? = some f_edwards_load := func80
def F_edwards_small : Nat := 81
noncomputable def f_edwards_small : Func := f81
theorem at_edwards_small : prog.funcs[F_edwards_small]? = some f_edwards_small := func81
def F_edwards_fe_times : Nat := 82
noncomputable def f_edwards_fe_times : Func := f82
theorem at_edwards_fe_times : prog.funcs[F_edwards_fe_times]? = some f_edwards_fe_times := func82
def F_edwards_identity : Nat := 83
noncomputable def f_edwards_identity : Func := f83
theorem at_edwards_identity : prog.funcs[F_edwards_identity]? = some f_edwards_identity := func83
def F_edwards_point_plus : Nat := 84
noncomputable def f_edwards_point_plus : Func := f84
theorem at_edwards_point_plus : prog.funcs[F_edwards_point_plus]? = some f_edwards_point_plus := func84
def F_edwards_point_twice : Nat := 85
noncomputable def f_edwards_point_twice : Func := f85
theorem at_edwards_point_twice : prog.funcs[F_edwards_point_twice]? = some f_edwards_point_twice := func85
def F_edwards_point_xy : Nat := 86
noncomputable def f_edwards_point_xy : Func := f86
theorem at_edwards_point_xy : prog.funcs[F_edwards_point_xy]? = some f_edwards_point_xy := func86
def F_edwards_fe_bytes : Nat := 87
noncomputable def f_edwards_fe_bytes : Func := f87
theorem at_edwards_fe_bytes : prog.funcs[F_edwards_fe_bytes]? = some f_edwards_fe_bytes := func87
def F_edwards_fe_odd : Nat := 88
noncomputable def f_edwards_fe_odd : Func := f88
theorem at_edwards_fe_odd : prog.funcs[F_edwards_fe_odd]? = some f_edwards_fe_odd := func88
def F_edwards_open : Nat := 89
noncomputable def f_edwards_open : Func := f89
theorem at_edwards_open : prog.funcs[F_edwards_open]? = some f_edwards_open := func89
def F_edwards_order : Nat := 90
noncomputable def f_edwards_order : Func := f90
theorem at_edwards_order : prog.funcs[F_edwards_order]? = some f_edwards_order := func90
def F_edwards_point_isIdentity : Nat := 91
noncomputable def f_edwards_point_isIdentity : Func := f91
theorem at_edwards_point_isIdentity : prog.funcs[F_edwards_point_isIdentity]? = some f_edwards_point_isIdentity := func91
def F_bits_Mul64 : Nat := 92
noncomputable def f_bits_Mul64 : Func := f92
theorem at_bits_Mul64 : prog.funcs[F_bits_Mul64]? = some f_bits_Mul64 := func92
def F_sha512_Constants : Nat := 93
noncomputable def f_sha512_Constants : Func := f93
theorem at_sha512_Constants : prog.funcs[F_sha512_Constants]? = some f_sha512_Constants := func93
def F_sha512_begin : Nat := 94
noncomputable def f_sha512_begin : Func := f94
theorem at_sha512_begin : prog.funcs[F_sha512_begin]? = some f_sha512_begin := func94
def F_sha512_Hasher_made : Nat := 95
noncomputable def f_sha512_Hasher_made : Func := f95
theorem at_sha512_Hasher_made : prog.funcs[F_sha512_Hasher_made]? = some f_sha512_Hasher_made := func95
def F_sha512_block : Nat := 96
noncomputable def f_sha512_block : Func := f96
theorem at_sha512_block : prog.funcs[F_sha512_block]? = some f_sha512_block := func96
def F_sha512_pad : Nat := 97
noncomputable def f_sha512_pad : Func := f97
theorem at_sha512_pad : prog.funcs[F_sha512_pad]? = some f_sha512_pad := func97
def F_edwards_wide_add : Nat := 98
noncomputable def f_edwards_wide_add : Func := f98
theorem at_edwards_wide_add : prog.funcs[F_edwards_wide_add]? = some f_edwards_wide_add := func98
def F_edwards_carried : Nat := 99
noncomputable def f_edwards_carried : Func := f99
theorem at_edwards_carried : prog.funcs[F_edwards_carried]? = some f_edwards_carried := func99
def F_edwards_curve : Nat := 100
noncomputable def f_edwards_curve : Func := f100
theorem at_edwards_curve : prog.funcs[F_edwards_curve]? = some f_edwards_curve := func100
def F_edwards_fe_plus : Nat := 101
noncomputable def f_edwards_fe_plus : Func := f101
theorem at_edwards_fe_plus : prog.funcs[F_edwards_fe_plus]? = some f_edwards_fe_plus := func101
def F_edwards_fe_minus : Nat := 102
noncomputable def f_edwards_fe_minus : Func := f102
theorem at_edwards_fe_minus : prog.funcs[F_edwards_fe_minus]? = some f_edwards_fe_minus := func102
def F_edwards_fe_square : Nat := 103
noncomputable def f_edwards_fe_square : Func := f103
theorem at_edwards_fe_square : prog.funcs[F_edwards_fe_square]? = some f_edwards_fe_square := func103
def F_edwards_fe_inverse : Nat := 104
noncomputable def f_edwards_fe_inverse : Func := f104
theorem at_edwards_fe_inverse : prog.funcs[F_edwards_fe_inverse]? = some f_edwards_fe_inverse := func104
def F_edwards_root : Nat := 105
noncomputable def f_edwards_root : Func := f105
theorem at_edwards_root : prog.funcs[F_edwards_root]? = some f_edwards_root := func105
def F_edwards_fe_same : Nat := 106
noncomputable def f_edwards_fe_same : Func := f106
theorem at_edwards_fe_same : prog.funcs[F_edwards_fe_same]? = some f_edwards_fe_same := func106
def F_sha512_ror : Nat := 107
noncomputable def f_sha512_ror : Func := f107
theorem at_sha512_ror : prog.funcs[F_sha512_ror]? = some f_sha512_ror := func107
def F_edwards_fe_chain : Nat := 108
noncomputable def f_edwards_fe_chain : Func := f108
theorem at_edwards_fe_chain : prog.funcs[F_edwards_fe_chain]? = some f_edwards_fe_chain := func108
def F_edwards_fe_squares : Nat := 109
noncomputable def f_edwards_fe_squares : Func := f109
theorem at_edwards_fe_squares : prog.funcs[F_edwards_fe_squares]? = some f_edwards_fe_squares := func109
def F_edwards_fe_eighth : Nat := 110
noncomputable def f_edwards_fe_eighth : Func := f110
theorem at_edwards_fe_eighth : prog.funcs[F_edwards_fe_eighth]? = some f_edwards_fe_eighth := func110
def F_edwards_rootOfMinus1 : Nat := 111
noncomputable def f_edwards_rootOfMinus1 : Func := f111
theorem at_edwards_rootOfMinus1 : prog.funcs[F_edwards_rootOfMinus1]? = some f_edwards_rootOfMinus1 := func111
def F_bits_RotateLeft64 : Nat := 112
noncomputable def f_bits_RotateLeft64 : Func := f112
theorem at_bits_RotateLeft64 : prog.funcs[F_bits_RotateLeft64]? = some f_bits_RotateLeft64 := func112
end Go.Proofs.YtkifoidhmipacaaGreat
