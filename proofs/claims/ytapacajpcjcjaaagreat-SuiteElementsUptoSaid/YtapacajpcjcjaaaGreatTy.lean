/-
  Texts of the claim: DTy.
-/
import Derived.Test.YtapacajpcjcjaaaGreatAc
import Derived.KernelRfl
import Derived.Test.YtapacajpcjcjaaaGreatProg
namespace Go.Proofs.YtapacajpcjcjaaaGreat
open Go.Proofs.Tryz
open Go Go.AM
def tt : TT :=
 .node 117 (.node 60 (.node 28 (.node 14 (.node 7 (.node 4 (.node 2 (.leaf 1 ⟨.other, 1, 8, [.one (.unk)], false⟩)
 (.node 3 (.leaf 2 ⟨.int .i64, 1, 8, [.ints .i64 1 (fun _ => 0)], false⟩)
 (.leaf 3 ⟨.int .i64, 1, 8, [.ints .i64 1 (fun _ => 0)], false⟩)))
 (.node 5 (.leaf 4 ⟨.bool, 1, 1, [.one (.bool false)], false⟩)
 (.node 6 (.leaf 5 ⟨.int .u8, 1, 1, [.ints .u8 1 (fun _ => 0)], false⟩)
 (.leaf 6 ⟨.int .u8, 1, 1, [.ints .u8 1 (fun _ => 0)], false⟩))))
 (.node 10 (.node 8 (.leaf 7 ⟨.struct [(0, 2), (1, 3), (2, 4), (3, 6)], 4, 24, [.ints .i64 2 (fun _ => 0), .one (.bool false), .ints .u8 1 (fun _ => 0)], false⟩)
 (.node 9 (.leaf 8 ⟨.struct [(0, 2), (1, 3), (2, 4), (3, 6)], 4, 24, [.ints .i64 2 (fun _ => 0), .one (.bool false), .ints .u8 1 (fun _ => 0)], false⟩)
 (.leaf 9 ⟨.str, 1, 16, [.one (.str ⟨#[]⟩)], false⟩)))
 (.node 12 (.node 11 (.leaf 10 ⟨.str, 1, 16, [.one (.str ⟨#[]⟩)], false⟩)
 (.leaf 11 ⟨.str, 1, 16, [.one (.str ⟨#[]⟩)], false⟩))
 (.node 13 (.leaf 12 ⟨.int .u64, 1, 8, [.ints .u64 1 (fun _ => 0)], false⟩)
 (.leaf 13 ⟨.struct [(0, 9), (1, 12)], 2, 24, [.one (.str ⟨#[]⟩), .ints .u64 1 (fun _ => 0)], false⟩)))))
 (.node 21 (.node 17 (.node 15 (.leaf 14 ⟨.struct [(0, 9), (1, 12)], 2, 24, [.one (.str ⟨#[]⟩), .ints .u64 1 (fun _ => 0)], false⟩)
 (.node 16 (.leaf 15 ⟨.ptr, 1, 8, [.one (.nilp)], false⟩)
 (.leaf 16 ⟨.ptr, 1, 8, [.one (.nilp)], false⟩)))
 (.node 19 (.node 18 (.leaf 17 ⟨.ptr, 1, 8, [.one (.nilp)], false⟩)
 (.leaf 18 ⟨.struct [(0, 17)], 1, 8, [.one (.nilp)], false⟩))
 (.node 20 (.leaf 19 ⟨.struct [(0, 17)], 1, 8, [.one (.nilp)], false⟩)
 (.leaf 20 ⟨.other, 1, 16, [.one (.raw .nilIface)], false⟩))))
 (.node 24 (.node 22 (.leaf 21 ⟨.int .i32, 1, 4, [.ints .i32 1 (fun _ => 0)], false⟩)
 (.node 23 (.leaf 22 ⟨.arr 32 5, 32, 32, [.ints .u8 32 (fun _ => 0)], true⟩)
 (.leaf 23 ⟨.arr 32 5, 32, 32, [.ints .u8 32 (fun _ => 0)], true⟩)))
 (.node 26 (.node 25 (.leaf 24 ⟨.slice 5, 1, 24, [.one (.nils)], false⟩)
 (.leaf 25 ⟨.arr 32 5, 32, 32, [.ints .u8 32 (fun _ => 0)], true⟩))
 (.node 27 (.leaf 26 ⟨.slice 24, 1, 24, [.one (.nils)], false⟩)
 (.leaf 27 ⟨.slice 68, 1, 24, [.one (.nils)], false⟩))))))
 (.node 42 (.node 35 (.node 31 (.node 29 (.leaf 28 ⟨.slice 70, 1, 24, [.one (.nils)], false⟩)
 (.node 30 (.leaf 29 ⟨.slice 72, 1, 24, [.one (.nils)], false⟩)
 (.leaf 30 ⟨.slice 74, 1, 24, [.one (.nils)], false⟩)))
 (.node 33 (.node 32 (.leaf 31 ⟨.slice 76, 1, 24, [.one (.nils)], false⟩)
 (.leaf 32 ⟨.slice 78, 1, 24, [.one (.nils)], false⟩))
 (.node 34 (.leaf 33 ⟨.slice 80, 1, 24, [.one (.nils)], false⟩)
 (.leaf 34 ⟨.slice 82, 1, 24, [.one (.nils)], false⟩))))
 (.node 38 (.node 36 (.leaf 35 ⟨.slice 84, 1, 24, [.one (.nils)], false⟩)
 (.node 37 (.leaf 36 ⟨.slice 86, 1, 24, [.one (.nils)], false⟩)
 (.leaf 37 ⟨.slice 88, 1, 24, [.one (.nils)], false⟩)))
 (.node 40 (.node 39 (.leaf 38 ⟨.slice 90, 1, 24, [.one (.nils)], false⟩)
 (.leaf 39 ⟨.slice 92, 1, 24, [.one (.nils)], false⟩))
 (.node 41 (.leaf 40 ⟨.slice 94, 1, 24, [.one (.nils)], false⟩)
 (.leaf 41 ⟨.struct [(0, 26), (1, 26), (2, 27), (3, 27), (4, 28), (5, 28), (6, 29), (7, 29), (8, 30), (9, 30), (10, 31), (11, 31), (12, 32), (13, 32), (14, 33), (15, 33), (16, 34), (17, 34), (18, 35), (19, 35), (20, 36), (21, 36), (22, 37), (23, 37), (24, 38), (25, 38), (26, 39), (27, 39), (28, 40), (29, 40)], 30, 720, [.one (.nils), .one (.nils), .one (.nils), .one (.nils), .one (.nils), .one (.nils), .one (.nils), .one (.nils), .one (.nils), .one (.nils), .one (.nils), .one (.nils), .one (.nils), .one (.nils), .one (.nils), .one (.nils), .one (.nils), .one (.nils), .one (.nils), .one (.nils), .one (.nils), .one (.nils), .one (.nils), .one (.nils), .one (.nils), .one (.nils), .one (.nils), .one (.nils), .one (.nils), .one (.nils)], false⟩)))))
 (.node 53 (.node 47 (.node 43 (.leaf 42 ⟨.struct [(0, 26), (1, 26), (2, 27), (3, 27), (4, 28), (5, 28), (6, 29), (7, 29), (8, 30), (9, 30), (10, 31), (11, 31), (12, 32), (13, 32), (14, 33), (15, 33), (16, 34), (17, 34), (18, 35), (19, 35), (20, 36), (21, 36), (22, 37), (23, 37), (24, 38), (25, 38), (26, 39), (27, 39), (28, 40), (29, 40)], 30, 720, [.one (.nils), .one (.nils), .one (.nils), .one (.nils), .one (.nils), .one (.nils), .one (.nils), .one (.nils), .one (.nils), .one (.nils), .one (.nils), .one (.nils), .one (.nils), .one (.nils), .one (.nils), .one (.nils), .one (.nils), .one (.nils), .one (.nils), .one (.nils), .one (.nils), .one (.nils), .one (.nils), .one (.nils), .one (.nils), .one (.nils), .one (.nils), .one (.nils), .one (.nils), .one (.nils)], false⟩)
 (.node 45 (.leaf 43 ⟨.int .i64, 1, 8, [.ints .i64 1 (fun _ => 0)], false⟩)
 (.leaf 45 ⟨.other, 1, 8, [.one (.unk)], false⟩)))
 (.node 50 (.node 49 (.leaf 47 ⟨.other, 1, 8, [.one (.unk)], false⟩)
 (.leaf 49 ⟨.other, 1, 8, [.one (.unk)], false⟩))
 (.node 52 (.leaf 50 ⟨.other, 1, 8, [.one (.unk)], false⟩)
 (.leaf 52 ⟨.other, 1, 8, [.one (.unk)], false⟩))))
 (.node 56 (.node 54 (.leaf 53 ⟨.other, 1, 8, [.one (.unk)], false⟩)
 (.node 55 (.leaf 54 ⟨.other, 1, 8, [.one (.unk)], false⟩)
 (.leaf 55 ⟨.other, 1, 8, [.one (.unk)], false⟩)))
 (.node 58 (.node 57 (.leaf 56 ⟨.other, 1, 8, [.one (.unk)], false⟩)
 (.leaf 57 ⟨.other, 1, 8, [.one (.unk)], false⟩))
 (.node 59 (.leaf 58 ⟨.other, 1, 8, [.one (.unk)], false⟩)
 (.leaf 59 ⟨.other, 1, 8, [.one (.unk)], false⟩)))))))
 (.node 87 (.node 73 (.node 66 (.node 63 (.node 61 (.leaf 60 ⟨.other, 1, 8, [.one (.unk)], false⟩)
 (.node 62 (.leaf 61 ⟨.ptr, 1, 8, [.one (.nilp)], false⟩)
 (.leaf 62 ⟨.other, 1, 8, [.one (.unk)], false⟩)))
 (.node 64 (.leaf 63 ⟨.other, 1, 8, [.one (.unk)], false⟩)
 (.node 65 (.leaf 64 ⟨.other, 1, 8, [.one (.unk)], false⟩)
 (.leaf 65 ⟨.other, 1, 8, [.one (.unk)], false⟩))))
 (.node 69 (.node 67 (.leaf 66 ⟨.other, 1, 8, [.one (.unk)], false⟩)
 (.node 68 (.leaf 67 ⟨.other, 1, 8, [.one (.unk)], false⟩)
 (.leaf 68 ⟨.slice 3, 1, 24, [.one (.nils)], false⟩)))
 (.node 71 (.node 70 (.leaf 69 ⟨.other, 1, 8, [.one (.unk)], false⟩)
 (.leaf 70 ⟨.slice 114, 1, 24, [.one (.nils)], false⟩))
 (.node 72 (.leaf 71 ⟨.other, 1, 8, [.one (.unk)], false⟩)
 (.leaf 72 ⟨.slice 128, 1, 24, [.one (.nils)], false⟩)))))
 (.node 80 (.node 76 (.node 74 (.leaf 73 ⟨.other, 1, 8, [.one (.unk)], false⟩)
 (.node 75 (.leaf 74 ⟨.slice 25, 1, 24, [.one (.nils)], false⟩)
 (.leaf 75 ⟨.other, 1, 8, [.one (.unk)], false⟩)))
 (.node 78 (.node 77 (.leaf 76 ⟨.slice 23, 1, 24, [.one (.nils)], false⟩)
 (.leaf 77 ⟨.other, 1, 8, [.one (.unk)], false⟩))
 (.node 79 (.leaf 78 ⟨.slice 129, 1, 24, [.one (.nils)], false⟩)
 (.leaf 79 ⟨.other, 1, 8, [.one (.unk)], false⟩))))
 (.node 83 (.node 81 (.leaf 80 ⟨.slice 130, 1, 24, [.one (.nils)], false⟩)
 (.node 82 (.leaf 81 ⟨.other, 1, 8, [.one (.unk)], false⟩)
 (.leaf 82 ⟨.slice 132, 1, 24, [.one (.nils)], false⟩)))
 (.node 85 (.node 84 (.leaf 83 ⟨.other, 1, 8, [.one (.unk)], false⟩)
 (.leaf 84 ⟨.slice 133, 1, 24, [.one (.nils)], false⟩))
 (.node 86 (.leaf 85 ⟨.other, 1, 8, [.one (.unk)], false⟩)
 (.leaf 86 ⟨.slice 134, 1, 24, [.one (.nils)], false⟩))))))
 (.node 103 (.node 94 (.node 90 (.node 88 (.leaf 87 ⟨.other, 1, 8, [.one (.unk)], false⟩)
 (.node 89 (.leaf 88 ⟨.slice 136, 1, 24, [.one (.nils)], false⟩)
 (.leaf 89 ⟨.other, 1, 8, [.one (.unk)], false⟩)))
 (.node 92 (.node 91 (.leaf 90 ⟨.slice 138, 1, 24, [.one (.nils)], false⟩)
 (.leaf 91 ⟨.other, 1, 8, [.one (.unk)], false⟩))
 (.node 93 (.leaf 92 ⟨.slice 140, 1, 24, [.one (.nils)], false⟩)
 (.leaf 93 ⟨.other, 1, 8, [.one (.unk)], false⟩))))
 (.node 98 (.node 95 (.leaf 94 ⟨.slice 142, 1, 24, [.one (.nils)], false⟩)
 (.node 96 (.leaf 95 ⟨.other, 1, 8, [.one (.unk)], false⟩)
 (.leaf 96 ⟨.other, 1, 8, [.one (.unk)], false⟩)))
 (.node 101 (.node 100 (.leaf 98 ⟨.other, 1, 8, [.one (.unk)], false⟩)
 (.leaf 100 ⟨.other, 1, 8, [.one (.unk)], false⟩))
 (.node 102 (.leaf 101 ⟨.other, 1, 8, [.one (.unk)], false⟩)
 (.leaf 102 ⟨.int .u64, 1, 8, [.ints .u64 1 (fun _ => 0)], false⟩)))))
 (.node 110 (.node 106 (.node 104 (.leaf 103 ⟨.arr 4 102, 4, 32, [.ints .u64 4 (fun _ => 0)], true⟩)
 (.node 105 (.leaf 104 ⟨.arr 4 102, 4, 32, [.ints .u64 4 (fun _ => 0)], true⟩)
 (.leaf 105 ⟨.other, 1, 8, [.one (.unk)], false⟩)))
 (.node 108 (.node 107 (.leaf 106 ⟨.other, 1, 8, [.one (.unk)], false⟩)
 (.leaf 107 ⟨.arr 5 102, 5, 40, [.ints .u64 5 (fun _ => 0)], true⟩))
 (.node 109 (.leaf 108 ⟨.arr 5 102, 5, 40, [.ints .u64 5 (fun _ => 0)], true⟩)
 (.leaf 109 ⟨.struct [(0, 108), (5, 108), (10, 108), (15, 108)], 20, 160, [.ints .u64 20 (fun _ => 0)], true⟩))))
 (.node 113 (.node 111 (.leaf 110 ⟨.struct [(0, 108), (5, 108), (10, 108), (15, 108)], 20, 160, [.ints .u64 20 (fun _ => 0)], true⟩)
 (.node 112 (.leaf 111 ⟨.other, 1, 8, [.one (.unk)], false⟩)
 (.leaf 112 ⟨.other, 1, 8, [.one (.unk)], false⟩)))
 (.node 115 (.node 114 (.leaf 113 ⟨.other, 1, 8, [.one (.unk)], false⟩)
 (.leaf 114 ⟨.int .u32, 1, 4, [.ints .u32 1 (fun _ => 0)], false⟩))
 (.node 116 (.leaf 115 ⟨.arr 8 114, 8, 32, [.ints .u32 8 (fun _ => 0)], true⟩)
 (.leaf 116 ⟨.arr 8 114, 8, 32, [.ints .u32 8 (fun _ => 0)], true⟩))))))))
 (.node 177 (.node 144 (.node 130 (.node 123 (.node 120 (.node 118 (.leaf 117 ⟨.other, 1, 8, [.one (.unk)], false⟩)
 (.node 119 (.leaf 118 ⟨.other, 1, 8, [.one (.unk)], false⟩)
 (.leaf 119 ⟨.arr 10 2, 10, 80, [.ints .i64 10 (fun _ => 0)], true⟩)))
 (.node 121 (.leaf 120 ⟨.arr 10 2, 10, 80, [.ints .i64 10 (fun _ => 0)], true⟩)
 (.node 122 (.leaf 121 ⟨.struct [(0, 120), (10, 120), (20, 120), (30, 120)], 40, 320, [.ints .i64 40 (fun _ => 0)], true⟩)
 (.leaf 122 ⟨.struct [(0, 120), (10, 120), (20, 120), (30, 120)], 40, 320, [.ints .i64 40 (fun _ => 0)], true⟩))))
 (.node 126 (.node 124 (.leaf 123 ⟨.struct [(0, 120), (10, 120), (20, 122)], 60, 480, [.ints .i64 60 (fun _ => 0)], true⟩)
 (.node 125 (.leaf 124 ⟨.struct [(0, 120), (10, 120), (20, 122)], 60, 480, [.ints .i64 60 (fun _ => 0)], true⟩)
 (.leaf 125 ⟨.other, 1, 8, [.one (.unk)], false⟩)))
 (.node 128 (.node 127 (.leaf 126 ⟨.other, 1, 8, [.one (.unk)], false⟩)
 (.leaf 127 ⟨.other, 1, 8, [.one (.unk)], false⟩))
 (.node 129 (.leaf 128 ⟨.arr 32 5, 32, 32, [.ints .u8 32 (fun _ => 0)], true⟩)
 (.leaf 129 ⟨.arr 32 5, 32, 32, [.ints .u8 32 (fun _ => 0)], true⟩)))))
 (.node 137 (.node 133 (.node 131 (.leaf 130 ⟨.arr 32 5, 32, 32, [.ints .u8 32 (fun _ => 0)], true⟩)
 (.node 132 (.leaf 131 ⟨.struct [(0, 3), (1, 25)], 33, 40, [.ints .i64 1 (fun _ => 0), .ints .u8 32 (fun _ => 0)], true⟩)
 (.leaf 132 ⟨.struct [(0, 3), (1, 25)], 33, 40, [.ints .i64 1 (fun _ => 0), .ints .u8 32 (fun _ => 0)], true⟩)))
 (.node 135 (.node 134 (.leaf 133 ⟨.struct [(0, 3), (1, 25)], 33, 40, [.ints .i64 1 (fun _ => 0), .ints .u8 32 (fun _ => 0)], true⟩)
 (.leaf 134 ⟨.struct [(0, 3), (1, 25)], 33, 40, [.ints .i64 1 (fun _ => 0), .ints .u8 32 (fun _ => 0)], true⟩))
 (.node 136 (.leaf 135 ⟨.struct [(0, 3), (1, 23), (33, 23)], 65, 72, [.ints .i64 1 (fun _ => 0), .ints .u8 64 (fun _ => 0)], true⟩)
 (.leaf 136 ⟨.struct [(0, 3), (1, 23), (33, 23)], 65, 72, [.ints .i64 1 (fun _ => 0), .ints .u8 64 (fun _ => 0)], true⟩))))
 (.node 140 (.node 138 (.leaf 137 ⟨.struct [(0, 3), (1, 23)], 33, 40, [.ints .i64 1 (fun _ => 0), .ints .u8 32 (fun _ => 0)], true⟩)
 (.node 139 (.leaf 138 ⟨.struct [(0, 3), (1, 23)], 33, 40, [.ints .i64 1 (fun _ => 0), .ints .u8 32 (fun _ => 0)], true⟩)
 (.leaf 139 ⟨.struct [(0, 3), (1, 3), (2, 25)], 34, 48, [.ints .i64 2 (fun _ => 0), .ints .u8 32 (fun _ => 0)], true⟩)))
 (.node 142 (.node 141 (.leaf 140 ⟨.struct [(0, 3), (1, 3), (2, 25)], 34, 48, [.ints .i64 2 (fun _ => 0), .ints .u8 32 (fun _ => 0)], true⟩)
 (.leaf 141 ⟨.struct [(0, 3), (1, 3)], 2, 16, [.ints .i64 2 (fun _ => 0)], true⟩))
 (.node 143 (.leaf 142 ⟨.struct [(0, 3), (1, 3)], 2, 16, [.ints .i64 2 (fun _ => 0)], true⟩)
 (.leaf 143 ⟨.other, 1, 8, [.one (.unk)], false⟩))))))
 (.node 161 (.node 153 (.node 148 (.node 145 (.leaf 144 ⟨.arr 64 5, 64, 64, [.ints .u8 64 (fun _ => 0)], true⟩)
 (.node 146 (.leaf 145 ⟨.arr 64 5, 64, 64, [.ints .u8 64 (fun _ => 0)], true⟩)
 (.leaf 146 ⟨.other, 1, 8, [.one (.unk)], false⟩)))
 (.node 151 (.node 149 (.leaf 148 ⟨.other, 1, 8, [.one (.unk)], false⟩)
 (.leaf 149 ⟨.other, 1, 8, [.one (.unk)], false⟩))
 (.node 152 (.leaf 151 ⟨.other, 1, 8, [.one (.unk)], false⟩)
 (.leaf 152 ⟨.other, 1, 8, [.one (.unk)], false⟩))))
 (.node 157 (.node 155 (.leaf 153 ⟨.other, 1, 8, [.one (.unk)], false⟩)
 (.node 156 (.leaf 155 ⟨.other, 1, 8, [.one (.unk)], false⟩)
 (.leaf 156 ⟨.other, 1, 8, [.one (.unk)], false⟩)))
 (.node 159 (.node 158 (.leaf 157 ⟨.other, 1, 8, [.one (.unk)], false⟩)
 (.leaf 158 ⟨.other, 1, 8, [.one (.unk)], false⟩))
 (.node 160 (.leaf 159 ⟨.other, 1, 8, [.one (.unk)], false⟩)
 (.leaf 160 ⟨.arr 16 110, 320, 2560, [.ints .u64 320 (fun _ => 0)], true⟩)))))
 (.node 169 (.node 165 (.node 163 (.leaf 161 ⟨.other, 1, 8, [.one (.unk)], false⟩)
 (.node 164 (.leaf 163 ⟨.other, 1, 8, [.one (.unk)], false⟩)
 (.leaf 164 ⟨.other, 1, 8, [.one (.unk)], false⟩)))
 (.node 167 (.node 166 (.leaf 165 ⟨.int .u64, 1, 8, [.ints .u64 1 (fun _ => 0)], false⟩)
 (.leaf 166 ⟨.other, 1, 8, [.one (.unk)], false⟩))
 (.node 168 (.leaf 167 ⟨.other, 1, 8, [.one (.unk)], false⟩)
 (.leaf 168 ⟨.other, 1, 8, [.one (.unk)], false⟩))))
 (.node 172 (.node 170 (.leaf 169 ⟨.other, 1, 8, [.one (.unk)], false⟩)
 (.node 171 (.leaf 170 ⟨.other, 1, 8, [.one (.unk)], false⟩)
 (.leaf 171 ⟨.other, 1, 8, [.one (.unk)], false⟩)))
 (.node 175 (.node 174 (.leaf 172 ⟨.other, 1, 8, [.one (.unk)], false⟩)
 (.leaf 174 ⟨.other, 1, 8, [.one (.unk)], false⟩))
 (.node 176 (.leaf 175 ⟨.other, 1, 8, [.one (.unk)], false⟩)
 (.leaf 176 ⟨.arr 16 122, 640, 5120, [.ints .i64 640 (fun _ => 0)], true⟩)))))))
 (.node 206 (.node 192 (.node 184 (.node 180 (.node 178 (.leaf 177 ⟨.other, 1, 8, [.one (.unk)], false⟩)
 (.node 179 (.leaf 178 ⟨.other, 1, 8, [.one (.unk)], false⟩)
 (.leaf 179 ⟨.arr 5 9, 5, 80, [.one (.str ⟨#[]⟩), .one (.str ⟨#[]⟩), .one (.str ⟨#[]⟩), .one (.str ⟨#[]⟩), .one (.str ⟨#[]⟩)], false⟩)))
 (.node 181 (.leaf 180 ⟨.other, 1, 8, [.one (.unk)], false⟩)
 (.node 183 (.leaf 181 ⟨.other, 1, 8, [.one (.unk)], false⟩)
 (.leaf 183 ⟨.other, 1, 8, [.one (.unk)], false⟩))))
 (.node 187 (.node 185 (.leaf 184 ⟨.other, 1, 8, [.one (.unk)], false⟩)
 (.node 186 (.leaf 185 ⟨.other, 1, 8, [.one (.unk)], false⟩)
 (.leaf 186 ⟨.other, 1, 8, [.one (.unk)], false⟩)))
 (.node 190 (.node 189 (.leaf 187 ⟨.other, 1, 8, [.one (.unk)], false⟩)
 (.leaf 189 ⟨.other, 1, 8, [.one (.unk)], false⟩))
 (.node 191 (.leaf 190 ⟨.other, 1, 8, [.one (.unk)], false⟩)
 (.leaf 191 ⟨.struct [(0, 102), (1, 102)], 2, 16, [.ints .u64 2 (fun _ => 0)], true⟩)))))
 (.node 199 (.node 195 (.node 193 (.leaf 192 ⟨.struct [(0, 102), (1, 102)], 2, 16, [.ints .u64 2 (fun _ => 0)], true⟩)
 (.node 194 (.leaf 193 ⟨.arr 5 192, 10, 80, [.ints .u64 10 (fun _ => 0)], true⟩)
 (.leaf 194 ⟨.other, 1, 8, [.one (.unk)], false⟩)))
 (.node 197 (.node 196 (.leaf 195 ⟨.other, 1, 8, [.one (.unk)], false⟩)
 (.leaf 196 ⟨.other, 1, 8, [.one (.unk)], false⟩))
 (.node 198 (.leaf 197 ⟨.ptr, 1, 8, [.one (.nilp)], false⟩)
 (.leaf 198 ⟨.other, 1, 8, [.one (.unk)], false⟩))))
 (.node 202 (.node 200 (.leaf 199 ⟨.other, 1, 8, [.one (.unk)], false⟩)
 (.node 201 (.leaf 200 ⟨.other, 1, 8, [.one (.unk)], false⟩)
 (.leaf 201 ⟨.other, 1, 8, [.one (.unk)], false⟩)))
 (.node 204 (.node 203 (.leaf 202 ⟨.other, 1, 8, [.one (.unk)], false⟩)
 (.leaf 203 ⟨.ptr, 1, 8, [.one (.nilp)], false⟩))
 (.node 205 (.leaf 204 ⟨.other, 1, 8, [.one (.unk)], false⟩)
 (.leaf 205 ⟨.other, 1, 8, [.one (.unk)], false⟩))))))
 (.node 220 (.node 213 (.node 209 (.node 207 (.leaf 206 ⟨.arr 80 102, 80, 640, [.ints .u64 80 (fun _ => 0)], true⟩)
 (.node 208 (.leaf 207 ⟨.other, 1, 8, [.one (.unk)], false⟩)
 (.leaf 208 ⟨.arr 8 102, 8, 64, [.ints .u64 8 (fun _ => 0)], true⟩)))
 (.node 211 (.node 210 (.leaf 209 ⟨.other, 1, 8, [.one (.unk)], false⟩)
 (.leaf 210 ⟨.ptr, 1, 8, [.one (.nilp)], false⟩))
 (.node 212 (.leaf 211 ⟨.struct [(0, 208), (8, 24), (9, 102), (10, 210)], 11, 104, [.ints .u64 8 (fun _ => 0), .one (.nils), .ints .u64 1 (fun _ => 0), .one (.nilp)], false⟩)
 (.leaf 212 ⟨.struct [(0, 208), (8, 24), (9, 102), (10, 210)], 11, 104, [.ints .u64 8 (fun _ => 0), .one (.nils), .ints .u64 1 (fun _ => 0), .one (.nilp)], false⟩))))
 (.node 216 (.node 214 (.leaf 213 ⟨.other, 1, 8, [.one (.unk)], false⟩)
 (.node 215 (.leaf 214 ⟨.other, 1, 8, [.one (.unk)], false⟩)
 (.leaf 215 ⟨.arr 6 102, 6, 48, [.ints .u64 6 (fun _ => 0)], true⟩)))
 (.node 218 (.node 217 (.leaf 216 ⟨.other, 1, 8, [.one (.unk)], false⟩)
 (.leaf 217 ⟨.other, 1, 8, [.one (.unk)], false⟩))
 (.node 219 (.leaf 218 ⟨.other, 1, 8, [.one (.unk)], false⟩)
 (.leaf 219 ⟨.struct [(0, 17), (1, 17), (2, 17), (3, 9)], 4, 40, [.one (.nilp), .one (.nilp), .one (.nilp), .one (.str ⟨#[]⟩)], false⟩)))))
 (.node 227 (.node 223 (.node 221 (.leaf 220 ⟨.struct [(0, 17), (1, 17), (2, 17), (3, 9)], 4, 40, [.one (.nilp), .one (.nilp), .one (.nilp), .one (.str ⟨#[]⟩)], false⟩)
 (.node 222 (.leaf 221 ⟨.arr 0 16, 0, 0, [], false⟩)
 (.leaf 222 ⟨.struct [(0, 221)], 0, 0, [], false⟩)))
 (.node 225 (.node 224 (.leaf 223 ⟨.struct [(0, 221)], 0, 0, [], false⟩)
 (.leaf 224 ⟨.other, 1, 8, [.one (.unk)], false⟩))
 (.node 226 (.leaf 225 ⟨.int .u8, 1, 1, [.ints .u8 1 (fun _ => 0)], false⟩)
 (.leaf 226 ⟨.int .u8, 1, 1, [.ints .u8 1 (fun _ => 0)], false⟩))))
 (.node 230 (.node 228 (.leaf 227 ⟨.other, 1, 8, [.one (.unk)], false⟩)
 (.node 229 (.leaf 228 ⟨.ptr, 1, 8, [.one (.nilp)], false⟩)
 (.leaf 229 ⟨.int .i32, 1, 4, [.ints .i32 1 (fun _ => 0)], false⟩)))
 (.node 232 (.node 231 (.leaf 230 ⟨.int .i32, 1, 4, [.ints .i32 1 (fun _ => 0)], false⟩)
 (.leaf 231 ⟨.struct [(0, 12), (1, 12), (2, 114), (3, 225), (4, 5), (5, 5), (6, 226), (7, 227), (8, 228), (9, 229), (10, 230)], 11, 48, [.ints .u64 2 (fun _ => 0), .ints .u32 1 (fun _ => 0), .ints .u8 4 (fun _ => 0), .one (.unk), .one (.nilp), .ints .i32 2 (fun _ => 0)], false⟩))
 (.node 233 (.leaf 232 ⟨.struct [(0, 12), (1, 12), (2, 114), (3, 225), (4, 5), (5, 5), (6, 226), (7, 227), (8, 228), (9, 229), (10, 230)], 11, 48, [.ints .u64 2 (fun _ => 0), .ints .u32 1 (fun _ => 0), .ints .u8 4 (fun _ => 0), .one (.unk), .one (.nilp), .ints .i32 2 (fun _ => 0)], false⟩)
 (.leaf 233 ⟨.other, 1, 8, [.one (.nilp)], false⟩))))))))
theorem tt_ok : tt.chk prog = true := by kernel_rfl
theorem mix : prog.follows .mixedOrders = true := by kernel_rfl
def F_rimelaw06_SuiteElements : Nat := 3
noncomputable def f_rimelaw06_SuiteElements : Func := f3
theorem at_rimelaw06_SuiteElements : prog.funcs[F_rimelaw06_SuiteElements]? = some f_rimelaw06_SuiteElements := func3
def F_suite_PutElement : Nat := 4
noncomputable def f_suite_PutElement : Func := f4
theorem at_suite_PutElement : prog.funcs[F_suite_PutElement]? = some f_suite_PutElement := func4
def F_rimeref06_PutElement : Nat := 5
noncomputable def f_rimeref06_PutElement : Func := f5
theorem at_rimeref06_PutElement : prog.funcs[F_rimeref06_PutElement]? = some f_rimeref06_PutElement := func5
def F_suite_GetElement : Nat := 6
noncomputable def f_suite_GetElement : Func := f6
theorem at_suite_GetElement : prog.funcs[F_suite_GetElement]? = some f_suite_GetElement := func6
def F_rimeplain_Given_Bytes : Nat := 7
noncomputable def f_rimeplain_Given_Bytes : Func := f7
theorem at_rimeplain_Given_Bytes : prog.funcs[F_rimeplain_Given_Bytes]? = some f_rimeplain_Given_Bytes := func7
def F_rimeref06_GetElement : Nat := 8
noncomputable def f_rimeref06_GetElement : Func := f8
theorem at_rimeref06_GetElement : prog.funcs[F_rimeref06_GetElement]? = some f_rimeref06_GetElement := func8
def F_suite_Exp : Nat := 9
noncomputable def f_suite_Exp : Func := f9
theorem at_suite_Exp : prog.funcs[F_suite_Exp]? = some f_suite_Exp := func9
def F_rimeref06_Exp : Nat := 10
noncomputable def f_rimeref06_Exp : Func := f10
theorem at_rimeref06_Exp : prog.funcs[F_rimeref06_Exp]? = some f_rimeref06_Exp := func10
def F_rimeplain_SameBytes : Nat := 11
noncomputable def f_rimeplain_SameBytes : Func := f11
theorem at_rimeplain_SameBytes : prog.funcs[F_rimeplain_SameBytes]? = some f_rimeplain_SameBytes := func11
def F_rimelaw06_num : Nat := 12
noncomputable def f_rimelaw06_num : Func := f12
theorem at_rimelaw06_num : prog.funcs[F_rimelaw06_num]? = some f_rimelaw06_num := func12
def F_rimeplain_Given_Intact : Nat := 13
noncomputable def f_rimeplain_Given_Intact : Func := f13
theorem at_rimeplain_Given_Intact : prog.funcs[F_rimeplain_Given_Intact]? = some f_rimeplain_Given_Intact := func13
def F_rimelaw06_works : Nat := 14
noncomputable def f_rimelaw06_works : Func := f14
theorem at_rimelaw06_works : prog.funcs[F_rimelaw06_works]? = some f_rimelaw06_works := func14
def F_suite_group : Nat := 15
noncomputable def f_suite_group : Func := f15
theorem at_suite_group : prog.funcs[F_suite_group]? = some f_suite_group := func15
def F_rimeref06_Group : Nat := 16
noncomputable def f_rimeref06_Group : Func := f16
theorem at_rimeref06_Group : prog.funcs[F_rimeref06_Group]? = some f_rimeref06_Group := func16
def F_rimeplain_markBytes : Nat := 17
noncomputable def f_rimeplain_markBytes : Func := f17
theorem at_rimeplain_markBytes : prog.funcs[F_rimeplain_markBytes]? = some f_rimeplain_markBytes := func17
def F_rimeplain_CopyBytes : Nat := 18
noncomputable def f_rimeplain_CopyBytes : Func := f18
theorem at_rimeplain_CopyBytes : prog.funcs[F_rimeplain_CopyBytes]? = some f_rimeplain_CopyBytes := func18
def F_scalar_Add : Nat := 19
noncomputable def f_scalar_Add : Func := f19
theorem at_scalar_Add : prog.funcs[F_scalar_Add]? = some f_scalar_Add := func19
def F_scalar_IsZero : Nat := 20
noncomputable def f_scalar_IsZero : Func := f20
theorem at_scalar_IsZero : prog.funcs[F_scalar_IsZero]? = some f_scalar_IsZero := func20
def F_edwards_MulBase : Nat := 21
noncomputable def f_edwards_MulBase : Func := f21
theorem at_edwards_MulBase : prog.funcs[F_edwards_MulBase]? = some f_edwards_MulBase := func21
def F_rimeref02_Reduce : Nat := 22
noncomputable def f_rimeref02_Reduce : Func := f22
theorem at_rimeref02_Reduce : prog.funcs[F_rimeref02_Reduce]? = some f_rimeref02_Reduce := func22
def F_rimeref04_MulBase : Nat := 23
noncomputable def f_rimeref04_MulBase : Func := f23
theorem at_rimeref04_MulBase : prog.funcs[F_rimeref04_MulBase]? = some f_rimeref04_MulBase := func23
def F_suite_H1 : Nat := 38
noncomputable def f_suite_H1 : Func := f38
theorem at_suite_H1 : prog.funcs[F_suite_H1]? = some f_suite_H1 := func38
def F_edwards_Check : Nat := 39
noncomputable def f_edwards_Check : Func := f39
theorem at_edwards_Check : prog.funcs[F_edwards_Check]? = some f_edwards_Check := func39
def F_edwards_Identity : Nat := 40
noncomputable def f_edwards_Identity : Func := f40
theorem at_edwards_Identity : prog.funcs[F_edwards_Identity]? = some f_edwards_Identity := func40
def F_edwards_IsPrime : Nat := 41
noncomputable def f_edwards_IsPrime : Func := f41
theorem at_edwards_IsPrime : prog.funcs[F_edwards_IsPrime]? = some f_edwards_IsPrime := func41
def F_rimeref04_Check : Nat := 42
noncomputable def f_rimeref04_Check : Func := f42
theorem at_rimeref04_Check : prog.funcs[F_rimeref04_Check]? = some f_rimeref04_Check := func42
def F_rimeref04_Identity : Nat := 43
noncomputable def f_rimeref04_Identity : Func := f43
theorem at_rimeref04_Identity : prog.funcs[F_rimeref04_Identity]? = some f_rimeref04_Identity := func43
def F_rimeref04_IsPrime : Nat := 44
noncomputable def f_rimeref04_IsPrime : Func := f44
theorem at_rimeref04_IsPrime : prog.funcs[F_rimeref04_IsPrime]? = some f_rimeref04_IsPrime := func44
def F_scalar_back : Nat := 45
noncomputable def f_scalar_back : Func := f45
theorem at_scalar_back : prog.funcs[F_scalar_back]? = some f_scalar_back := func45
def F_scalar_plus : Nat := 46
noncomputable def f_scalar_plus : Func := f46
theorem at_scalar_plus : prog.funcs[F_scalar_plus]? = some f_scalar_plus := func46
def F_scalar_value : Nat := 47
noncomputable def f_scalar_value : Func := f47
theorem at_scalar_value : prog.funcs[F_scalar_value]? = some f_scalar_value := func47
def F_edwards_base : Nat := 48
noncomputable def f_edwards_base : Func := f48
theorem at_edwards_base : prog.funcs[F_edwards_base]? = some f_edwards_base := func48
def F_edwards_point_times : Nat := 49
noncomputable def f_edwards_point_times : Func := f49
theorem at_edwards_point_times : prog.funcs[F_edwards_point_times]? = some f_edwards_point_times := func49
def F_edwards_point_form : Nat := 50
noncomputable def f_edwards_point_form : Func := f50
theorem at_edwards_point_form : prog.funcs[F_edwards_point_form]? = some f_edwards_point_form := func50
def F_rimeref02_Back : Nat := 51
noncomputable def f_rimeref02_Back : Func := f51
theorem at_rimeref02_Back : prog.funcs[F_rimeref02_Back]? = some f_rimeref02_Back := func51
def F_rimeref02_mod : Nat := 52
noncomputable def f_rimeref02_mod : Func := f52
theorem at_rimeref02_mod : prog.funcs[F_rimeref02_mod]? = some f_rimeref02_mod := func52
def F_rimeref02_digits : Nat := 53
noncomputable def f_rimeref02_digits : Func := f53
theorem at_rimeref02_digits : prog.funcs[F_rimeref02_digits]? = some f_rimeref02_digits := func53
def F_rimeref04_Made : Nat := 54
noncomputable def f_rimeref04_Made : Func := f54
theorem at_rimeref04_Made : prog.funcs[F_rimeref04_Made]? = some f_rimeref04_Made := func54
def F_rimeref04_Form : Nat := 55
noncomputable def f_rimeref04_Form : Func := f55
theorem at_rimeref04_Form : prog.funcs[F_rimeref04_Form]? = some f_rimeref04_Form := func55
def F_rimeref04_Curve_Many : Nat := 56
noncomputable def f_rimeref04_Curve_Many : Func := f56
theorem at_rimeref04_Curve_Many : prog.funcs[F_rimeref04_Curve_Many]? = some f_rimeref04_Curve_Many := func56
def F_suite_number : Nat := 57
noncomputable def f_suite_number : Func := f57
theorem at_suite_number : prog.funcs[F_suite_number]? = some f_suite_number := func57
def F_suite_hashed : Nat := 58
noncomputable def f_suite_hashed : Func := f58
theorem at_suite_hashed : prog.funcs[F_suite_hashed]? = some f_suite_hashed := func58
def F_edwards_open : Nat := 59
noncomputable def f_edwards_open : Func := f59
theorem at_edwards_open : prog.funcs[F_edwards_open]? = some f_edwards_open := func59
def F_edwards_identity : Nat := 60
noncomputable def f_edwards_identity : Func := f60
theorem at_edwards_identity : prog.funcs[F_edwards_identity]? = some f_edwards_identity := func60
def F_edwards_order : Nat := 61
noncomputable def f_edwards_order : Func := f61
theorem at_edwards_order : prog.funcs[F_edwards_order]? = some f_edwards_order := func61
def F_edwards_point_isIdentity : Nat := 62
noncomputable def f_edwards_point_isIdentity : Func := f62
theorem at_edwards_point_isIdentity : prog.funcs[F_edwards_point_isIdentity]? = some f_edwards_point_isIdentity := func62
def F_rimeref04_Curve_Point : Nat := 63
noncomputable def f_rimeref04_Curve_Point : Func := f63
theorem at_rimeref04_Curve_Point : prog.funcs[F_rimeref04_Curve_Point]? = some f_rimeref04_Curve_Point := func63
def F_rimeref04_None : Nat := 64
noncomputable def f_rimeref04_None : Func := f64
theorem at_rimeref04_None : prog.funcs[F_rimeref04_None]? = some f_rimeref04_None := func64
def F_rimeref04_Mul : Nat := 65
noncomputable def f_rimeref04_Mul : Func := f65
theorem at_rimeref04_Mul : prog.funcs[F_rimeref04_Mul]? = some f_rimeref04_Mul := func65
def F_rimeref04_Order : Nat := 66
noncomputable def f_rimeref04_Order : Func := f66
theorem at_rimeref04_Order : prog.funcs[F_rimeref04_Order]? = some f_rimeref04_Order := func66
def F_bits_Add64 : Nat := 67
noncomputable def f_bits_Add64 : Func := f67
theorem at_bits_Add64 : prog.funcs[F_bits_Add64]? = some f_bits_Add64 := func67
def F_scalar_lowered : Nat := 68
noncomputable def f_scalar_lowered : Func := f68
theorem at_scalar_lowered : prog.funcs[F_scalar_lowered]? = some f_scalar_lowered := func68
def F_scalar_from : Nat := 69
noncomputable def f_scalar_from : Func := f69
theorem at_scalar_from : prog.funcs[F_scalar_from]? = some f_scalar_from := func69
def F_edwards_load : Nat := 70
noncomputable def f_edwards_load : Func := f70
theorem at_edwards_load : prog.funcs[F_edwards_load]? = some f_edwards_load := func70
def F_edwards_small : Nat := 71
noncomputable def f_edwards_small : Func := f71
theorem at_edwards_small : prog.funcs[F_edwards_small]? = some f_edwards_small := func71
def F_edwards_fe_times : Nat := 72
noncomputable def f_edwards_fe_times : Func := f72
theorem at_edwards_fe_times : prog.funcs[F_edwards_fe_times]? = some f_edwards_fe_times := func72
def F_edwards_point_plus : Nat := 73
noncomputable def f_edwards_point_plus : Func := f73
theorem at_edwards_point_plus : prog.funcs[F_edwards_point_plus]? = some f_edwards_point_plus := func73
def F_edwards_point_twice : Nat := 74
noncomputable def f_edwards_point_twice : Func := f74
theorem at_edwards_point_twice : prog.funcs[F_edwards_point_twice]? = some f_edwards_point_twice := func74
def F_edwards_point_xy : Nat := 75
noncomputable def f_edwards_point_xy : Func := f75
theorem at_edwards_point_xy : prog.funcs[F_edwards_point_xy]? = some f_edwards_point_xy := func75
def F_edwards_fe_bytes : Nat := 76
noncomputable def f_edwards_fe_bytes : Func := f76
theorem at_edwards_fe_bytes : prog.funcs[F_edwards_fe_bytes]? = some f_edwards_fe_bytes := func76
def F_edwards_fe_odd : Nat := 77
noncomputable def f_edwards_fe_odd : Func := f77
theorem at_edwards_fe_odd : prog.funcs[F_edwards_fe_odd]? = some f_edwards_fe_odd := func77
def F_rimeref02_Order : Nat := 78
noncomputable def f_rimeref02_Order : Func := f78
theorem at_rimeref02_Order : prog.funcs[F_rimeref02_Order]? = some f_rimeref02_Order := func78
def F_rimeref02_twice : Nat := 79
noncomputable def f_rimeref02_twice : Func := f79
theorem at_rimeref02_twice : prog.funcs[F_rimeref02_twice]? = some f_rimeref02_twice := func79
def F_rimeref02_below : Nat := 80
noncomputable def f_rimeref02_below : Func := f80
theorem at_rimeref02_below : prog.funcs[F_rimeref02_below]? = some f_rimeref02_below := func80
def F_rimeref02_minus : Nat := 81
noncomputable def f_rimeref02_minus : Func := f81
theorem at_rimeref02_minus : prog.funcs[F_rimeref02_minus]? = some f_rimeref02_minus := func81
def F_rimeref04_D : Nat := 82
noncomputable def f_rimeref04_D : Func := f82
theorem at_rimeref04_D : prog.funcs[F_rimeref04_D]? = some f_rimeref04_D := func82
def F_rimeref04_SqrtM1 : Nat := 83
noncomputable def f_rimeref04_SqrtM1 : Func := f83
theorem at_rimeref04_SqrtM1 : prog.funcs[F_rimeref04_SqrtM1]? = some f_rimeref04_SqrtM1 := func83
def F_rimeref04_Affine : Nat := 84
noncomputable def f_rimeref04_Affine : Func := f84
theorem at_rimeref04_Affine : prog.funcs[F_rimeref04_Affine]? = some f_rimeref04_Affine := func84
def F_rimeref04_From : Nat := 85
noncomputable def f_rimeref04_From : Func := f85
theorem at_rimeref04_From : prog.funcs[F_rimeref04_From]? = some f_rimeref04_From := func85
def F_rimeref04_XY : Nat := 86
noncomputable def f_rimeref04_XY : Func := f86
theorem at_rimeref04_XY : prog.funcs[F_rimeref04_XY]? = some f_rimeref04_XY := func86
def F_rimeref04_Bytes : Nat := 87
noncomputable def f_rimeref04_Bytes : Func := f87
theorem at_rimeref04_Bytes : prog.funcs[F_rimeref04_Bytes]? = some f_rimeref04_Bytes := func87
def F_rimeref04_Curve_Sum : Nat := 88
noncomputable def f_rimeref04_Curve_Sum : Func := f88
theorem at_rimeref04_Curve_Sum : prog.funcs[F_rimeref04_Curve_Sum]? = some f_rimeref04_Curve_Sum := func88
def F_rimeref04_Twice : Nat := 89
noncomputable def f_rimeref04_Twice : Func := f89
theorem at_rimeref04_Twice : prog.funcs[F_rimeref04_Twice]? = some f_rimeref04_Twice := func89
def F_scalar_Reduce : Nat := 90
noncomputable def f_scalar_Reduce : Func := f90
theorem at_scalar_Reduce : prog.funcs[F_scalar_Reduce]? = some f_scalar_Reduce := func90
def F_sha512_Join : Nat := 91
noncomputable def f_sha512_Join : Func := f91
theorem at_sha512_Join : prog.funcs[F_sha512_Join]? = some f_sha512_Join := func91
def F_edwards_fe_square : Nat := 92
noncomputable def f_edwards_fe_square : Func := f92
theorem at_edwards_fe_square : prog.funcs[F_edwards_fe_square]? = some f_edwards_fe_square := func92
def F_edwards_root : Nat := 93
noncomputable def f_edwards_root : Func := f93
theorem at_edwards_root : prog.funcs[F_edwards_root]? = some f_edwards_root := func93
def F_edwards_fe_minus : Nat := 94
noncomputable def f_edwards_fe_minus : Func := f94
theorem at_edwards_fe_minus : prog.funcs[F_edwards_fe_minus]? = some f_edwards_fe_minus := func94
def F_edwards_curve : Nat := 95
noncomputable def f_edwards_curve : Func := f95
theorem at_edwards_curve : prog.funcs[F_edwards_curve]? = some f_edwards_curve := func95
def F_edwards_fe_plus : Nat := 96
noncomputable def f_edwards_fe_plus : Func := f96
theorem at_edwards_fe_plus : prog.funcs[F_edwards_fe_plus]? = some f_edwards_fe_plus := func96
def F_edwards_fe_same : Nat := 97
noncomputable def f_edwards_fe_same : Func := f97
theorem at_edwards_fe_same : prog.funcs[F_edwards_fe_same]? = some f_edwards_fe_same := func97
def F_rimeref04_Times : Nat := 98
noncomputable def f_rimeref04_Times : Func := f98
theorem at_rimeref04_Times : prog.funcs[F_rimeref04_Times]? = some f_rimeref04_Times := func98
def F_rimeref04_Minus : Nat := 99
noncomputable def f_rimeref04_Minus : Func := f99
theorem at_rimeref04_Minus : prog.funcs[F_rimeref04_Minus]? = some f_rimeref04_Minus := func99
def F_rimeref04_Small : Nat := 100
noncomputable def f_rimeref04_Small : Func := f100
theorem at_rimeref04_Small : prog.funcs[F_rimeref04_Small]? = some f_rimeref04_Small := func100
def F_rimeref04_Plus : Nat := 101
noncomputable def f_rimeref04_Plus : Func := f101
theorem at_rimeref04_Plus : prog.funcs[F_rimeref04_Plus]? = some f_rimeref04_Plus := func101
def F_rimeref04_root : Nat := 102
noncomputable def f_rimeref04_root : Func := f102
theorem at_rimeref04_root : prog.funcs[F_rimeref04_root]? = some f_rimeref04_root := func102
def F_rimeref04_Same : Nat := 103
noncomputable def f_rimeref04_Same : Func := f103
theorem at_rimeref04_Same : prog.funcs[F_rimeref04_Same]? = some f_rimeref04_Same := func103
def F_scalar_less : Nat := 104
noncomputable def f_scalar_less : Func := f104
theorem at_scalar_less : prog.funcs[F_scalar_less]? = some f_scalar_less := func104
def F_scalar_order : Nat := 105
noncomputable def f_scalar_order : Func := f105
theorem at_scalar_order : prog.funcs[F_scalar_order]? = some f_scalar_order := func105
def F_edwards_wide_add : Nat := 106
noncomputable def f_edwards_wide_add : Func := f106
theorem at_edwards_wide_add : prog.funcs[F_edwards_wide_add]? = some f_edwards_wide_add := func106
def F_edwards_carried : Nat := 107
noncomputable def f_edwards_carried : Func := f107
theorem at_edwards_carried : prog.funcs[F_edwards_carried]? = some f_edwards_carried := func107
def F_edwards_fe_inverse : Nat := 108
noncomputable def f_edwards_fe_inverse : Func := f108
theorem at_edwards_fe_inverse : prog.funcs[F_edwards_fe_inverse]? = some f_edwards_fe_inverse := func108
def F_rimeref04_bits : Nat := 109
noncomputable def f_rimeref04_bits : Func := f109
theorem at_rimeref04_bits : prog.funcs[F_rimeref04_bits]? = some f_rimeref04_bits := func109
def F_rimeref04_carry : Nat := 110
noncomputable def f_rimeref04_carry : Func := f110
theorem at_rimeref04_carry : prog.funcs[F_rimeref04_carry]? = some f_rimeref04_carry := func110
def F_rimeref04_Invert : Nat := 111
noncomputable def f_rimeref04_Invert : Func := f111
theorem at_rimeref04_Invert : prog.funcs[F_rimeref04_Invert]? = some f_rimeref04_Invert := func111
def F_scalar_times : Nat := 112
noncomputable def f_scalar_times : Func := f112
theorem at_scalar_times : prog.funcs[F_scalar_times]? = some f_scalar_times := func112
def F_sha512_New : Nat := 113
noncomputable def f_sha512_New : Func := f113
theorem at_sha512_New : prog.funcs[F_sha512_New]? = some f_sha512_New := func113
def F_sha512_Hasher_Write : Nat := 114
noncomputable def f_sha512_Hasher_Write : Func := f114
theorem at_sha512_Hasher_Write : prog.funcs[F_sha512_Hasher_Write]? = some f_sha512_Hasher_Write := func114
def F_sha512_Hasher_Sum : Nat := 115
noncomputable def f_sha512_Hasher_Sum : Func := f115
theorem at_sha512_Hasher_Sum : prog.funcs[F_sha512_Hasher_Sum]? = some f_sha512_Hasher_Sum := func115
def F_edwards_fe_eighth : Nat := 116
noncomputable def f_edwards_fe_eighth : Func := f116
theorem at_edwards_fe_eighth : prog.funcs[F_edwards_fe_eighth]? = some f_edwards_fe_eighth := func116
def F_edwards_rootOfMinus1 : Nat := 117
noncomputable def f_edwards_rootOfMinus1 : Func := f117
theorem at_edwards_rootOfMinus1 : prog.funcs[F_edwards_rootOfMinus1]? = some f_edwards_rootOfMinus1 := func117
def F_rimeref04_power : Nat := 118
noncomputable def f_rimeref04_power : Func := f118
theorem at_rimeref04_power : prog.funcs[F_rimeref04_power]? = some f_rimeref04_power := func118
def F_rimeref04_exponent : Nat := 119
noncomputable def f_rimeref04_exponent : Func := f119
theorem at_rimeref04_exponent : prog.funcs[F_rimeref04_exponent]? = some f_rimeref04_exponent := func119
def F_bits_Sub64 : Nat := 120
noncomputable def f_bits_Sub64 : Func := f120
theorem at_bits_Sub64 : prog.funcs[F_bits_Sub64]? = some f_bits_Sub64 := func120
def F_bits_Mul64 : Nat := 121
noncomputable def f_bits_Mul64 : Func := f121
theorem at_bits_Mul64 : prog.funcs[F_bits_Mul64]? = some f_bits_Mul64 := func121
def F_edwards_fe_chain : Nat := 122
noncomputable def f_edwards_fe_chain : Func := f122
theorem at_edwards_fe_chain : prog.funcs[F_edwards_fe_chain]? = some f_edwards_fe_chain := func122
def F_edwards_fe_squares : Nat := 123
noncomputable def f_edwards_fe_squares : Func := f123
theorem at_edwards_fe_squares : prog.funcs[F_edwards_fe_squares]? = some f_edwards_fe_squares := func123
def F_scalar_mont : Nat := 124
noncomputable def f_scalar_mont : Func := f124
theorem at_scalar_mont : prog.funcs[F_scalar_mont]? = some f_scalar_mont := func124
def F_scalar_radix : Nat := 125
noncomputable def f_scalar_radix : Func := f125
theorem at_scalar_radix : prog.funcs[F_scalar_radix]? = some f_scalar_radix := func125
def F_sha512_Constants : Nat := 126
noncomputable def f_sha512_Constants : Func := f126
theorem at_sha512_Constants : prog.funcs[F_sha512_Constants]? = some f_sha512_Constants := func126
def F_sha512_begin : Nat := 127
noncomputable def f_sha512_begin : Func := f127
theorem at_sha512_begin : prog.funcs[F_sha512_begin]? = some f_sha512_begin := func127
def F_sha512_Hasher_made : Nat := 128
noncomputable def f_sha512_Hasher_made : Func := f128
theorem at_sha512_Hasher_made : prog.funcs[F_sha512_Hasher_made]? = some f_sha512_Hasher_made := func128
def F_sha512_block : Nat := 129
noncomputable def f_sha512_block : Func := f129
theorem at_sha512_block : prog.funcs[F_sha512_block]? = some f_sha512_block := func129
def F_sha512_pad : Nat := 130
noncomputable def f_sha512_pad : Func := f130
theorem at_sha512_pad : prog.funcs[F_sha512_pad]? = some f_sha512_pad := func130
def F_scalar_muladd : Nat := 131
noncomputable def f_scalar_muladd : Func := f131
theorem at_scalar_muladd : prog.funcs[F_scalar_muladd]? = some f_scalar_muladd := func131
def F_sha512_ror : Nat := 132
noncomputable def f_sha512_ror : Func := f132
theorem at_sha512_ror : prog.funcs[F_sha512_ror]? = some f_sha512_ror := func132
def F_bits_RotateLeft64 : Nat := 133
noncomputable def f_bits_RotateLeft64 : Func := f133
theorem at_bits_RotateLeft64 : prog.funcs[F_bits_RotateLeft64]? = some f_bits_RotateLeft64 := func133
end Go.Proofs.YtapacajpcjcjaaaGreat
