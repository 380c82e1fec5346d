/-
  Texts of the claim: DTy.
-/
import Derived.Test.YtbogcehngfjlkabGreatAc
import Derived.KernelRfl
import Derived.Test.YtbogcehngfjlkabGreatProg
namespace Go.Proofs.YtbogcehngfjlkabGreat
open Go.Proofs.Tryz
open Go Go.AM
def tt : TT :=
 .node 116 (.node 58 (.node 28 (.node 14 (.node 7 (.node 4 (.node 2 (.leaf 1 ⟨.other, 1, 8, [.one (.unk)], false⟩)
 (.node 3 (.leaf 2 ⟨.int .i64, 1, 8, [.ints .i64 1 (fun _ => 0)], false⟩)
 (.leaf 3 ⟨.int .i64, 1, 8, [.ints .i64 1 (fun _ => 0)], false⟩)))
 (.node 5 (.leaf 4 ⟨.bool, 1, 1, [.one (.bool false)], false⟩)
 (.node 6 (.leaf 5 ⟨.int .u8, 1, 1, [.ints .u8 1 (fun _ => 0)], false⟩)
 (.leaf 6 ⟨.int .u8, 1, 1, [.ints .u8 1 (fun _ => 0)], false⟩))))
 (.node 10 (.node 8 (.leaf 7 ⟨.struct [(0, 2), (1, 3), (2, 4), (3, 6)], 4, 24, [.ints .i64 2 (fun _ => 0), .one (.bool false), .ints .u8 1 (fun _ => 0)], false⟩)
 (.node 9 (.leaf 8 ⟨.struct [(0, 2), (1, 3), (2, 4), (3, 6)], 4, 24, [.ints .i64 2 (fun _ => 0), .one (.bool false), .ints .u8 1 (fun _ => 0)], false⟩)
 (.leaf 9 ⟨.str, 1, 16, [.one (.str ⟨#[]⟩)], false⟩)))
 (.node 12 (.node 11 (.leaf 10 ⟨.str, 1, 16, [.one (.str ⟨#[]⟩)], false⟩)
 (.leaf 11 ⟨.str, 1, 16, [.one (.str ⟨#[]⟩)], false⟩))
 (.node 13 (.leaf 12 ⟨.int .u64, 1, 8, [.ints .u64 1 (fun _ => 0)], false⟩)
 (.leaf 13 ⟨.struct [(0, 9), (1, 12)], 2, 24, [.one (.str ⟨#[]⟩), .ints .u64 1 (fun _ => 0)], false⟩)))))
 (.node 21 (.node 17 (.node 15 (.leaf 14 ⟨.struct [(0, 9), (1, 12)], 2, 24, [.one (.str ⟨#[]⟩), .ints .u64 1 (fun _ => 0)], false⟩)
 (.node 16 (.leaf 15 ⟨.ptr, 1, 8, [.one (.nilp)], false⟩)
 (.leaf 16 ⟨.ptr, 1, 8, [.one (.nilp)], false⟩)))
 (.node 19 (.node 18 (.leaf 17 ⟨.ptr, 1, 8, [.one (.nilp)], false⟩)
 (.leaf 18 ⟨.struct [(0, 17)], 1, 8, [.one (.nilp)], false⟩))
 (.node 20 (.leaf 19 ⟨.struct [(0, 17)], 1, 8, [.one (.nilp)], false⟩)
 (.leaf 20 ⟨.other, 1, 16, [.one (.raw .nilIface)], false⟩))))
 (.node 24 (.node 22 (.leaf 21 ⟨.int .i32, 1, 4, [.ints .i32 1 (fun _ => 0)], false⟩)
 (.node 23 (.leaf 22 ⟨.slice 54, 1, 24, [.one (.nils)], false⟩)
 (.leaf 23 ⟨.slice 42, 1, 24, [.one (.nils)], false⟩)))
 (.node 26 (.node 25 (.leaf 24 ⟨.slice 61, 1, 24, [.one (.nils)], false⟩)
 (.leaf 25 ⟨.slice 64, 1, 24, [.one (.nils)], false⟩))
 (.node 27 (.leaf 26 ⟨.slice 66, 1, 24, [.one (.nils)], false⟩)
 (.leaf 27 ⟨.slice 68, 1, 24, [.one (.nils)], false⟩))))))
 (.node 42 (.node 35 (.node 31 (.node 29 (.leaf 28 ⟨.slice 22, 1, 24, [.one (.nils)], false⟩)
 (.node 30 (.leaf 29 ⟨.slice 23, 1, 24, [.one (.nils)], false⟩)
 (.leaf 30 ⟨.slice 72, 1, 24, [.one (.nils)], false⟩)))
 (.node 33 (.node 32 (.leaf 31 ⟨.slice 74, 1, 24, [.one (.nils)], false⟩)
 (.leaf 32 ⟨.slice 76, 1, 24, [.one (.nils)], false⟩))
 (.node 34 (.leaf 33 ⟨.slice 78, 1, 24, [.one (.nils)], false⟩)
 (.leaf 34 ⟨.slice 80, 1, 24, [.one (.nils)], false⟩))))
 (.node 38 (.node 36 (.leaf 35 ⟨.slice 82, 1, 24, [.one (.nils)], false⟩)
 (.node 37 (.leaf 36 ⟨.slice 84, 1, 24, [.one (.nils)], false⟩)
 (.leaf 37 ⟨.slice 86, 1, 24, [.one (.nils)], false⟩)))
 (.node 40 (.node 39 (.leaf 38 ⟨.slice 88, 1, 24, [.one (.nils)], false⟩)
 (.leaf 39 ⟨.struct [(0, 24), (1, 24), (2, 25), (3, 25), (4, 26), (5, 26), (6, 27), (7, 27), (8, 28), (9, 28), (10, 29), (11, 29), (12, 30), (13, 30), (14, 31), (15, 31), (16, 32), (17, 32), (18, 33), (19, 33), (20, 34), (21, 34), (22, 35), (23, 35), (24, 36), (25, 36), (26, 37), (27, 37), (28, 38), (29, 38)], 30, 720, [.one (.nils), .one (.nils), .one (.nils), .one (.nils), .one (.nils), .one (.nils), .one (.nils), .one (.nils), .one (.nils), .one (.nils), .one (.nils), .one (.nils), .one (.nils), .one (.nils), .one (.nils), .one (.nils), .one (.nils), .one (.nils), .one (.nils), .one (.nils), .one (.nils), .one (.nils), .one (.nils), .one (.nils), .one (.nils), .one (.nils), .one (.nils), .one (.nils), .one (.nils), .one (.nils)], false⟩))
 (.node 41 (.leaf 40 ⟨.struct [(0, 24), (1, 24), (2, 25), (3, 25), (4, 26), (5, 26), (6, 27), (7, 27), (8, 28), (9, 28), (10, 29), (11, 29), (12, 30), (13, 30), (14, 31), (15, 31), (16, 32), (17, 32), (18, 33), (19, 33), (20, 34), (21, 34), (22, 35), (23, 35), (24, 36), (25, 36), (26, 37), (27, 37), (28, 38), (29, 38)], 30, 720, [.one (.nils), .one (.nils), .one (.nils), .one (.nils), .one (.nils), .one (.nils), .one (.nils), .one (.nils), .one (.nils), .one (.nils), .one (.nils), .one (.nils), .one (.nils), .one (.nils), .one (.nils), .one (.nils), .one (.nils), .one (.nils), .one (.nils), .one (.nils), .one (.nils), .one (.nils), .one (.nils), .one (.nils), .one (.nils), .one (.nils), .one (.nils), .one (.nils), .one (.nils), .one (.nils)], false⟩)
 (.leaf 41 ⟨.arr 32 5, 32, 32, [.ints .u8 32 (fun _ => 0)], true⟩)))))
 (.node 51 (.node 46 (.node 43 (.leaf 42 ⟨.arr 32 5, 32, 32, [.ints .u8 32 (fun _ => 0)], true⟩)
 (.node 45 (.leaf 43 ⟨.int .i64, 1, 8, [.ints .i64 1 (fun _ => 0)], false⟩)
 (.leaf 45 ⟨.other, 1, 8, [.one (.unk)], false⟩)))
 (.node 49 (.node 47 (.leaf 46 ⟨.other, 1, 8, [.one (.unk)], false⟩)
 (.leaf 47 ⟨.other, 1, 8, [.one (.unk)], false⟩))
 (.node 50 (.leaf 49 ⟨.other, 1, 8, [.one (.unk)], false⟩)
 (.leaf 50 ⟨.other, 1, 8, [.one (.unk)], false⟩))))
 (.node 54 (.node 52 (.leaf 51 ⟨.other, 1, 8, [.one (.unk)], false⟩)
 (.node 53 (.leaf 52 ⟨.other, 1, 8, [.one (.unk)], false⟩)
 (.leaf 53 ⟨.other, 1, 8, [.one (.unk)], false⟩)))
 (.node 56 (.node 55 (.leaf 54 ⟨.arr 32 5, 32, 32, [.ints .u8 32 (fun _ => 0)], true⟩)
 (.leaf 55 ⟨.other, 1, 8, [.one (.unk)], false⟩))
 (.node 57 (.leaf 56 ⟨.ptr, 1, 8, [.one (.nilp)], false⟩)
 (.leaf 57 ⟨.other, 1, 8, [.one (.unk)], false⟩)))))))
 (.node 85 (.node 71 (.node 64 (.node 61 (.node 59 (.leaf 58 ⟨.other, 1, 8, [.one (.unk)], false⟩)
 (.node 60 (.leaf 59 ⟨.other, 1, 8, [.one (.unk)], false⟩)
 (.leaf 60 ⟨.other, 1, 8, [.one (.unk)], false⟩)))
 (.node 62 (.leaf 61 ⟨.slice 5, 1, 24, [.one (.nils)], false⟩)
 (.node 63 (.leaf 62 ⟨.other, 1, 8, [.one (.unk)], false⟩)
 (.leaf 63 ⟨.other, 1, 8, [.one (.unk)], false⟩))))
 (.node 67 (.node 65 (.leaf 64 ⟨.slice 3, 1, 24, [.one (.nils)], false⟩)
 (.node 66 (.leaf 65 ⟨.other, 1, 8, [.one (.unk)], false⟩)
 (.leaf 66 ⟨.slice 114, 1, 24, [.one (.nils)], false⟩)))
 (.node 69 (.node 68 (.leaf 67 ⟨.other, 1, 8, [.one (.unk)], false⟩)
 (.leaf 68 ⟨.slice 132, 1, 24, [.one (.nils)], false⟩))
 (.node 70 (.leaf 69 ⟨.other, 1, 8, [.one (.unk)], false⟩)
 (.leaf 70 ⟨.other, 1, 8, [.one (.unk)], false⟩)))))
 (.node 78 (.node 74 (.node 72 (.leaf 71 ⟨.other, 1, 8, [.one (.unk)], false⟩)
 (.node 73 (.leaf 72 ⟨.slice 133, 1, 24, [.one (.nils)], false⟩)
 (.leaf 73 ⟨.other, 1, 8, [.one (.unk)], false⟩)))
 (.node 76 (.node 75 (.leaf 74 ⟨.slice 134, 1, 24, [.one (.nils)], false⟩)
 (.leaf 75 ⟨.other, 1, 8, [.one (.unk)], false⟩))
 (.node 77 (.leaf 76 ⟨.slice 136, 1, 24, [.one (.nils)], false⟩)
 (.leaf 77 ⟨.other, 1, 8, [.one (.unk)], false⟩))))
 (.node 81 (.node 79 (.leaf 78 ⟨.slice 137, 1, 24, [.one (.nils)], false⟩)
 (.node 80 (.leaf 79 ⟨.other, 1, 8, [.one (.unk)], false⟩)
 (.leaf 80 ⟨.slice 138, 1, 24, [.one (.nils)], false⟩)))
 (.node 83 (.node 82 (.leaf 81 ⟨.other, 1, 8, [.one (.unk)], false⟩)
 (.leaf 82 ⟨.slice 140, 1, 24, [.one (.nils)], false⟩))
 (.node 84 (.leaf 83 ⟨.other, 1, 8, [.one (.unk)], false⟩)
 (.leaf 84 ⟨.slice 142, 1, 24, [.one (.nils)], false⟩))))))
 (.node 100 (.node 92 (.node 88 (.node 86 (.leaf 85 ⟨.other, 1, 8, [.one (.unk)], false⟩)
 (.node 87 (.leaf 86 ⟨.slice 144, 1, 24, [.one (.nils)], false⟩)
 (.leaf 87 ⟨.other, 1, 8, [.one (.unk)], false⟩)))
 (.node 90 (.node 89 (.leaf 88 ⟨.slice 146, 1, 24, [.one (.nils)], false⟩)
 (.leaf 89 ⟨.other, 1, 8, [.one (.unk)], false⟩))
 (.node 91 (.leaf 90 ⟨.other, 1, 8, [.one (.unk)], false⟩)
 (.leaf 91 ⟨.other, 1, 8, [.one (.unk)], false⟩))))
 (.node 96 (.node 94 (.leaf 92 ⟨.other, 1, 8, [.one (.unk)], false⟩)
 (.node 95 (.leaf 94 ⟨.other, 1, 8, [.one (.unk)], false⟩)
 (.leaf 95 ⟨.other, 1, 8, [.one (.unk)], false⟩)))
 (.node 98 (.node 97 (.leaf 96 ⟨.int .u64, 1, 8, [.ints .u64 1 (fun _ => 0)], false⟩)
 (.leaf 97 ⟨.arr 4 96, 4, 32, [.ints .u64 4 (fun _ => 0)], true⟩))
 (.node 99 (.leaf 98 ⟨.arr 4 96, 4, 32, [.ints .u64 4 (fun _ => 0)], true⟩)
 (.leaf 99 ⟨.other, 1, 8, [.one (.unk)], false⟩)))))
 (.node 108 (.node 103 (.node 101 (.leaf 100 ⟨.other, 1, 8, [.one (.unk)], false⟩)
 (.node 102 (.leaf 101 ⟨.arr 5 96, 5, 40, [.ints .u64 5 (fun _ => 0)], true⟩)
 (.leaf 102 ⟨.arr 5 96, 5, 40, [.ints .u64 5 (fun _ => 0)], true⟩)))
 (.node 105 (.node 104 (.leaf 103 ⟨.struct [(0, 102), (5, 102), (10, 102), (15, 102)], 20, 160, [.ints .u64 20 (fun _ => 0)], true⟩)
 (.leaf 104 ⟨.struct [(0, 102), (5, 102), (10, 102), (15, 102)], 20, 160, [.ints .u64 20 (fun _ => 0)], true⟩))
 (.node 107 (.leaf 105 ⟨.other, 1, 8, [.one (.unk)], false⟩)
 (.leaf 107 ⟨.other, 1, 8, [.one (.unk)], false⟩))))
 (.node 112 (.node 109 (.leaf 108 ⟨.other, 1, 8, [.one (.unk)], false⟩)
 (.node 110 (.leaf 109 ⟨.other, 1, 8, [.one (.unk)], false⟩)
 (.leaf 110 ⟨.int .u64, 1, 8, [.ints .u64 1 (fun _ => 0)], false⟩)))
 (.node 114 (.node 113 (.leaf 112 ⟨.other, 1, 8, [.one (.unk)], false⟩)
 (.leaf 113 ⟨.other, 1, 8, [.one (.unk)], false⟩))
 (.node 115 (.leaf 114 ⟨.int .u32, 1, 4, [.ints .u32 1 (fun _ => 0)], false⟩)
 (.leaf 115 ⟨.arr 8 114, 8, 32, [.ints .u32 8 (fun _ => 0)], true⟩))))))))
 (.node 175 (.node 144 (.node 130 (.node 122 (.node 119 (.node 117 (.leaf 116 ⟨.arr 8 114, 8, 32, [.ints .u32 8 (fun _ => 0)], true⟩)
 (.node 118 (.leaf 117 ⟨.other, 1, 8, [.one (.unk)], false⟩)
 (.leaf 118 ⟨.other, 1, 8, [.one (.unk)], false⟩)))
 (.node 120 (.leaf 119 ⟨.arr 10 2, 10, 80, [.ints .i64 10 (fun _ => 0)], true⟩)
 (.node 121 (.leaf 120 ⟨.arr 10 2, 10, 80, [.ints .i64 10 (fun _ => 0)], true⟩)
 (.leaf 121 ⟨.struct [(0, 120), (10, 120), (20, 120), (30, 120)], 40, 320, [.ints .i64 40 (fun _ => 0)], true⟩))))
 (.node 125 (.node 123 (.leaf 122 ⟨.struct [(0, 120), (10, 120), (20, 120), (30, 120)], 40, 320, [.ints .i64 40 (fun _ => 0)], true⟩)
 (.node 124 (.leaf 123 ⟨.struct [(0, 120), (10, 120), (20, 122)], 60, 480, [.ints .i64 60 (fun _ => 0)], true⟩)
 (.leaf 124 ⟨.struct [(0, 120), (10, 120), (20, 122)], 60, 480, [.ints .i64 60 (fun _ => 0)], true⟩)))
 (.node 128 (.node 126 (.leaf 125 ⟨.other, 1, 8, [.one (.unk)], false⟩)
 (.leaf 126 ⟨.other, 1, 8, [.one (.unk)], false⟩))
 (.node 129 (.leaf 128 ⟨.other, 1, 8, [.one (.unk)], false⟩)
 (.leaf 129 ⟨.other, 1, 8, [.one (.unk)], false⟩)))))
 (.node 137 (.node 133 (.node 131 (.leaf 130 ⟨.other, 1, 8, [.one (.unk)], false⟩)
 (.node 132 (.leaf 131 ⟨.other, 1, 8, [.one (.unk)], false⟩)
 (.leaf 132 ⟨.arr 32 5, 32, 32, [.ints .u8 32 (fun _ => 0)], true⟩)))
 (.node 135 (.node 134 (.leaf 133 ⟨.arr 32 5, 32, 32, [.ints .u8 32 (fun _ => 0)], true⟩)
 (.leaf 134 ⟨.arr 32 5, 32, 32, [.ints .u8 32 (fun _ => 0)], true⟩))
 (.node 136 (.leaf 135 ⟨.struct [(0, 3), (1, 54)], 33, 40, [.ints .i64 1 (fun _ => 0), .ints .u8 32 (fun _ => 0)], true⟩)
 (.leaf 136 ⟨.struct [(0, 3), (1, 54)], 33, 40, [.ints .i64 1 (fun _ => 0), .ints .u8 32 (fun _ => 0)], true⟩))))
 (.node 140 (.node 138 (.leaf 137 ⟨.struct [(0, 3), (1, 54)], 33, 40, [.ints .i64 1 (fun _ => 0), .ints .u8 32 (fun _ => 0)], true⟩)
 (.node 139 (.leaf 138 ⟨.struct [(0, 3), (1, 54)], 33, 40, [.ints .i64 1 (fun _ => 0), .ints .u8 32 (fun _ => 0)], true⟩)
 (.leaf 139 ⟨.struct [(0, 3), (1, 42), (33, 42)], 65, 72, [.ints .i64 1 (fun _ => 0), .ints .u8 64 (fun _ => 0)], true⟩)))
 (.node 142 (.node 141 (.leaf 140 ⟨.struct [(0, 3), (1, 42), (33, 42)], 65, 72, [.ints .i64 1 (fun _ => 0), .ints .u8 64 (fun _ => 0)], true⟩)
 (.leaf 141 ⟨.struct [(0, 3), (1, 42)], 33, 40, [.ints .i64 1 (fun _ => 0), .ints .u8 32 (fun _ => 0)], true⟩))
 (.node 143 (.leaf 142 ⟨.struct [(0, 3), (1, 42)], 33, 40, [.ints .i64 1 (fun _ => 0), .ints .u8 32 (fun _ => 0)], true⟩)
 (.leaf 143 ⟨.struct [(0, 3), (1, 3), (2, 54)], 34, 48, [.ints .i64 2 (fun _ => 0), .ints .u8 32 (fun _ => 0)], true⟩))))))
 (.node 159 (.node 151 (.node 147 (.node 145 (.leaf 144 ⟨.struct [(0, 3), (1, 3), (2, 54)], 34, 48, [.ints .i64 2 (fun _ => 0), .ints .u8 32 (fun _ => 0)], true⟩)
 (.node 146 (.leaf 145 ⟨.struct [(0, 3), (1, 3)], 2, 16, [.ints .i64 2 (fun _ => 0)], true⟩)
 (.leaf 146 ⟨.struct [(0, 3), (1, 3)], 2, 16, [.ints .i64 2 (fun _ => 0)], true⟩)))
 (.node 149 (.node 148 (.leaf 147 ⟨.other, 1, 8, [.one (.unk)], false⟩)
 (.leaf 148 ⟨.arr 64 5, 64, 64, [.ints .u8 64 (fun _ => 0)], true⟩))
 (.node 150 (.leaf 149 ⟨.arr 64 5, 64, 64, [.ints .u8 64 (fun _ => 0)], true⟩)
 (.leaf 150 ⟨.other, 1, 8, [.one (.unk)], false⟩))))
 (.node 155 (.node 152 (.leaf 151 ⟨.other, 1, 8, [.one (.unk)], false⟩)
 (.node 153 (.leaf 152 ⟨.other, 1, 8, [.one (.unk)], false⟩)
 (.leaf 153 ⟨.other, 1, 8, [.one (.unk)], false⟩)))
 (.node 157 (.node 156 (.leaf 155 ⟨.other, 1, 8, [.one (.unk)], false⟩)
 (.leaf 156 ⟨.other, 1, 8, [.one (.unk)], false⟩))
 (.node 158 (.leaf 157 ⟨.other, 1, 8, [.one (.unk)], false⟩)
 (.leaf 158 ⟨.other, 1, 8, [.one (.unk)], false⟩)))))
 (.node 168 (.node 163 (.node 160 (.leaf 159 ⟨.other, 1, 8, [.one (.unk)], false⟩)
 (.node 162 (.leaf 160 ⟨.other, 1, 8, [.one (.unk)], false⟩)
 (.leaf 162 ⟨.other, 1, 8, [.one (.unk)], false⟩)))
 (.node 166 (.node 164 (.leaf 163 ⟨.other, 1, 8, [.one (.unk)], false⟩)
 (.leaf 164 ⟨.arr 16 104, 320, 2560, [.ints .u64 320 (fun _ => 0)], true⟩))
 (.node 167 (.leaf 166 ⟨.other, 1, 8, [.one (.unk)], false⟩)
 (.leaf 167 ⟨.other, 1, 8, [.one (.unk)], false⟩))))
 (.node 171 (.node 169 (.leaf 168 ⟨.other, 1, 8, [.one (.unk)], false⟩)
 (.node 170 (.leaf 169 ⟨.other, 1, 8, [.one (.unk)], false⟩)
 (.leaf 170 ⟨.other, 1, 8, [.one (.unk)], false⟩)))
 (.node 173 (.node 172 (.leaf 171 ⟨.other, 1, 8, [.one (.unk)], false⟩)
 (.leaf 172 ⟨.other, 1, 8, [.one (.unk)], false⟩))
 (.node 174 (.leaf 173 ⟨.other, 1, 8, [.one (.unk)], false⟩)
 (.leaf 174 ⟨.other, 1, 8, [.one (.unk)], false⟩)))))))
 (.node 204 (.node 190 (.node 182 (.node 178 (.node 176 (.leaf 175 ⟨.other, 1, 8, [.one (.unk)], false⟩)
 (.node 177 (.leaf 176 ⟨.other, 1, 8, [.one (.unk)], false⟩)
 (.leaf 177 ⟨.other, 1, 8, [.one (.unk)], false⟩)))
 (.node 179 (.leaf 178 ⟨.other, 1, 8, [.one (.unk)], false⟩)
 (.node 180 (.leaf 179 ⟨.arr 16 122, 640, 5120, [.ints .i64 640 (fun _ => 0)], true⟩)
 (.leaf 180 ⟨.other, 1, 8, [.one (.unk)], false⟩))))
 (.node 185 (.node 183 (.leaf 182 ⟨.other, 1, 8, [.one (.unk)], false⟩)
 (.node 184 (.leaf 183 ⟨.arr 5 9, 5, 80, [.one (.str ⟨#[]⟩), .one (.str ⟨#[]⟩), .one (.str ⟨#[]⟩), .one (.str ⟨#[]⟩), .one (.str ⟨#[]⟩)], false⟩)
 (.leaf 184 ⟨.other, 1, 8, [.one (.unk)], false⟩)))
 (.node 188 (.node 187 (.leaf 185 ⟨.other, 1, 8, [.one (.unk)], false⟩)
 (.leaf 187 ⟨.other, 1, 8, [.one (.unk)], false⟩))
 (.node 189 (.leaf 188 ⟨.other, 1, 8, [.one (.unk)], false⟩)
 (.leaf 189 ⟨.struct [(0, 96), (1, 96)], 2, 16, [.ints .u64 2 (fun _ => 0)], true⟩)))))
 (.node 197 (.node 193 (.node 191 (.leaf 190 ⟨.struct [(0, 96), (1, 96)], 2, 16, [.ints .u64 2 (fun _ => 0)], true⟩)
 (.node 192 (.leaf 191 ⟨.arr 5 190, 10, 80, [.ints .u64 10 (fun _ => 0)], true⟩)
 (.leaf 192 ⟨.other, 1, 8, [.one (.unk)], false⟩)))
 (.node 195 (.node 194 (.leaf 193 ⟨.other, 1, 8, [.one (.unk)], false⟩)
 (.leaf 194 ⟨.other, 1, 8, [.one (.unk)], false⟩))
 (.node 196 (.leaf 195 ⟨.other, 1, 8, [.one (.unk)], false⟩)
 (.leaf 196 ⟨.other, 1, 8, [.one (.unk)], false⟩))))
 (.node 200 (.node 198 (.leaf 197 ⟨.ptr, 1, 8, [.one (.nilp)], false⟩)
 (.node 199 (.leaf 198 ⟨.other, 1, 8, [.one (.unk)], false⟩)
 (.leaf 199 ⟨.other, 1, 8, [.one (.unk)], false⟩)))
 (.node 202 (.node 201 (.leaf 200 ⟨.other, 1, 8, [.one (.unk)], false⟩)
 (.leaf 201 ⟨.other, 1, 8, [.one (.unk)], false⟩))
 (.node 203 (.leaf 202 ⟨.ptr, 1, 8, [.one (.nilp)], false⟩)
 (.leaf 203 ⟨.other, 1, 8, [.one (.unk)], false⟩))))))
 (.node 218 (.node 211 (.node 207 (.node 205 (.leaf 204 ⟨.arr 80 96, 80, 640, [.ints .u64 80 (fun _ => 0)], true⟩)
 (.node 206 (.leaf 205 ⟨.other, 1, 8, [.one (.unk)], false⟩)
 (.leaf 206 ⟨.arr 8 96, 8, 64, [.ints .u64 8 (fun _ => 0)], true⟩)))
 (.node 209 (.node 208 (.leaf 207 ⟨.other, 1, 8, [.one (.unk)], false⟩)
 (.leaf 208 ⟨.ptr, 1, 8, [.one (.nilp)], false⟩))
 (.node 210 (.leaf 209 ⟨.struct [(0, 206), (8, 61), (9, 96), (10, 208)], 11, 104, [.ints .u64 8 (fun _ => 0), .one (.nils), .ints .u64 1 (fun _ => 0), .one (.nilp)], false⟩)
 (.leaf 210 ⟨.struct [(0, 206), (8, 61), (9, 96), (10, 208)], 11, 104, [.ints .u64 8 (fun _ => 0), .one (.nils), .ints .u64 1 (fun _ => 0), .one (.nilp)], false⟩))))
 (.node 214 (.node 212 (.leaf 211 ⟨.other, 1, 8, [.one (.unk)], false⟩)
 (.node 213 (.leaf 212 ⟨.other, 1, 8, [.one (.unk)], false⟩)
 (.leaf 213 ⟨.arr 6 96, 6, 48, [.ints .u64 6 (fun _ => 0)], true⟩)))
 (.node 216 (.node 215 (.leaf 214 ⟨.other, 1, 8, [.one (.unk)], false⟩)
 (.leaf 215 ⟨.other, 1, 8, [.one (.unk)], false⟩))
 (.node 217 (.leaf 216 ⟨.other, 1, 8, [.one (.unk)], false⟩)
 (.leaf 217 ⟨.struct [(0, 17), (1, 17), (2, 17), (3, 9)], 4, 40, [.one (.nilp), .one (.nilp), .one (.nilp), .one (.str ⟨#[]⟩)], false⟩)))))
 (.node 225 (.node 221 (.node 219 (.leaf 218 ⟨.struct [(0, 17), (1, 17), (2, 17), (3, 9)], 4, 40, [.one (.nilp), .one (.nilp), .one (.nilp), .one (.str ⟨#[]⟩)], false⟩)
 (.node 220 (.leaf 219 ⟨.arr 0 16, 0, 0, [], false⟩)
 (.leaf 220 ⟨.struct [(0, 219)], 0, 0, [], false⟩)))
 (.node 223 (.node 222 (.leaf 221 ⟨.struct [(0, 219)], 0, 0, [], false⟩)
 (.leaf 222 ⟨.other, 1, 8, [.one (.unk)], false⟩))
 (.node 224 (.leaf 223 ⟨.int .u8, 1, 1, [.ints .u8 1 (fun _ => 0)], false⟩)
 (.leaf 224 ⟨.int .u8, 1, 1, [.ints .u8 1 (fun _ => 0)], false⟩))))
 (.node 228 (.node 226 (.leaf 225 ⟨.other, 1, 8, [.one (.unk)], false⟩)
 (.node 227 (.leaf 226 ⟨.ptr, 1, 8, [.one (.nilp)], false⟩)
 (.leaf 227 ⟨.int .i32, 1, 4, [.ints .i32 1 (fun _ => 0)], false⟩)))
 (.node 230 (.node 229 (.leaf 228 ⟨.int .i32, 1, 4, [.ints .i32 1 (fun _ => 0)], false⟩)
 (.leaf 229 ⟨.struct [(0, 12), (1, 12), (2, 114), (3, 223), (4, 5), (5, 5), (6, 224), (7, 225), (8, 226), (9, 227), (10, 228)], 11, 48, [.ints .u64 2 (fun _ => 0), .ints .u32 1 (fun _ => 0), .ints .u8 4 (fun _ => 0), .one (.unk), .one (.nilp), .ints .i32 2 (fun _ => 0)], false⟩))
 (.node 231 (.leaf 230 ⟨.struct [(0, 12), (1, 12), (2, 114), (3, 223), (4, 5), (5, 5), (6, 224), (7, 225), (8, 226), (9, 227), (10, 228)], 11, 48, [.ints .u64 2 (fun _ => 0), .ints .u32 1 (fun _ => 0), .ints .u8 4 (fun _ => 0), .one (.unk), .one (.nilp), .ints .i32 2 (fun _ => 0)], false⟩)
 (.leaf 231 ⟨.other, 1, 8, [.one (.nilp)], false⟩))))))))
theorem tt_ok : tt.chk prog = true := by kernel_rfl
theorem mix : prog.follows .mixedOrders = true := by kernel_rfl
def F_rimelaw06_SuiteCombines : Nat := 3
noncomputable def f_rimelaw06_SuiteCombines : Func := f3
theorem at_rimelaw06_SuiteCombines : prog.funcs[F_rimelaw06_SuiteCombines]? = some f_rimelaw06_SuiteCombines := func3
def F_suite_Combine : Nat := 4
noncomputable def f_suite_Combine : Func := f4
theorem at_suite_Combine : prog.funcs[F_suite_Combine]? = some f_suite_Combine := func4
def F_rimeplain_Given_Scalars : Nat := 5
noncomputable def f_rimeplain_Given_Scalars : Func := f5
theorem at_rimeplain_Given_Scalars : prog.funcs[F_rimeplain_Given_Scalars]? = some f_rimeplain_Given_Scalars := func5
def F_rimeplain_Given_Elements : Nat := 6
noncomputable def f_rimeplain_Given_Elements : Func := f6
theorem at_rimeplain_Given_Elements : prog.funcs[F_rimeplain_Given_Elements]? = some f_rimeplain_Given_Elements := func6
def F_rimeref06_Combine : Nat := 7
noncomputable def f_rimeref06_Combine : Func := f7
theorem at_rimeref06_Combine : prog.funcs[F_rimeref06_Combine]? = some f_rimeref06_Combine := func7
def F_rimelaw06_num : Nat := 8
noncomputable def f_rimelaw06_num : Func := f8
theorem at_rimelaw06_num : prog.funcs[F_rimelaw06_num]? = some f_rimelaw06_num := func8
def F_rimeplain_Given_Intact : Nat := 9
noncomputable def f_rimeplain_Given_Intact : Func := f9
theorem at_rimeplain_Given_Intact : prog.funcs[F_rimeplain_Given_Intact]? = some f_rimeplain_Given_Intact := func9
def F_rimelaw06_works : Nat := 10
noncomputable def f_rimelaw06_works : Func := f10
theorem at_rimelaw06_works : prog.funcs[F_rimelaw06_works]? = some f_rimelaw06_works := func10
def F_suite_group : Nat := 11
noncomputable def f_suite_group : Func := f11
theorem at_suite_group : prog.funcs[F_suite_group]? = some f_suite_group := func11
def F_scalar_Add : Nat := 12
noncomputable def f_scalar_Add : Func := f12
theorem at_scalar_Add : prog.funcs[F_scalar_Add]? = some f_scalar_Add := func12
def F_edwards_Multi : Nat := 13
noncomputable def f_edwards_Multi : Func := f13
theorem at_edwards_Multi : prog.funcs[F_edwards_Multi]? = some f_edwards_Multi := func13
def F_rimeplain_markScalars : Nat := 14
noncomputable def f_rimeplain_markScalars : Func := f14
theorem at_rimeplain_markScalars : prog.funcs[F_rimeplain_markScalars]? = some f_rimeplain_markScalars := func14
def F_rimeplain_CopyScalars : Nat := 15
noncomputable def f_rimeplain_CopyScalars : Func := f15
theorem at_rimeplain_CopyScalars : prog.funcs[F_rimeplain_CopyScalars]? = some f_rimeplain_CopyScalars := func15
def F_rimeplain_markElements : Nat := 16
noncomputable def f_rimeplain_markElements : Func := f16
theorem at_rimeplain_markElements : prog.funcs[F_rimeplain_markElements]? = some f_rimeplain_markElements := func16
def F_rimeplain_CopyElements : Nat := 17
noncomputable def f_rimeplain_CopyElements : Func := f17
theorem at_rimeplain_CopyElements : prog.funcs[F_rimeplain_CopyElements]? = some f_rimeplain_CopyElements := func17
def F_rimeref06_Group : Nat := 18
noncomputable def f_rimeref06_Group : Func := f18
theorem at_rimeref06_Group : prog.funcs[F_rimeref06_Group]? = some f_rimeref06_Group := func18
def F_rimeref02_Reduce : Nat := 19
noncomputable def f_rimeref02_Reduce : Func := f19
theorem at_rimeref02_Reduce : prog.funcs[F_rimeref02_Reduce]? = some f_rimeref02_Reduce := func19
def F_rimeref04_Multi : Nat := 20
noncomputable def f_rimeref04_Multi : Func := f20
theorem at_rimeref04_Multi : prog.funcs[F_rimeref04_Multi]? = some f_rimeref04_Multi := func20
def F_rimeplain_SameScalars : Nat := 25
noncomputable def f_rimeplain_SameScalars : Func := f25
theorem at_rimeplain_SameScalars : prog.funcs[F_rimeplain_SameScalars]? = some f_rimeplain_SameScalars := func25
def F_rimeplain_SameElements : Nat := 26
noncomputable def f_rimeplain_SameElements : Func := f26
theorem at_rimeplain_SameElements : prog.funcs[F_rimeplain_SameElements]? = some f_rimeplain_SameElements := func26
def F_suite_H1 : Nat := 36
noncomputable def f_suite_H1 : Func := f36
theorem at_suite_H1 : prog.funcs[F_suite_H1]? = some f_suite_H1 := func36
def F_suite_Exp : Nat := 37
noncomputable def f_suite_Exp : Func := f37
theorem at_suite_Exp : prog.funcs[F_suite_Exp]? = some f_suite_Exp := func37
def F_suite_GetElement : Nat := 38
noncomputable def f_suite_GetElement : Func := f38
theorem at_suite_GetElement : prog.funcs[F_suite_GetElement]? = some f_suite_GetElement := func38
def F_edwards_Check : Nat := 39
noncomputable def f_edwards_Check : Func := f39
theorem at_edwards_Check : prog.funcs[F_edwards_Check]? = some f_edwards_Check := func39
def F_edwards_Identity : Nat := 40
noncomputable def f_edwards_Identity : Func := f40
theorem at_edwards_Identity : prog.funcs[F_edwards_Identity]? = some f_edwards_Identity := func40
def F_edwards_IsPrime : Nat := 41
noncomputable def f_edwards_IsPrime : Func := f41
theorem at_edwards_IsPrime : prog.funcs[F_edwards_IsPrime]? = some f_edwards_IsPrime := func41
def F_scalar_back : Nat := 42
noncomputable def f_scalar_back : Func := f42
theorem at_scalar_back : prog.funcs[F_scalar_back]? = some f_scalar_back := func42
def F_scalar_plus : Nat := 43
noncomputable def f_scalar_plus : Func := f43
theorem at_scalar_plus : prog.funcs[F_scalar_plus]? = some f_scalar_plus := func43
def F_scalar_value : Nat := 44
noncomputable def f_scalar_value : Func := f44
theorem at_scalar_value : prog.funcs[F_scalar_value]? = some f_scalar_value := func44
def F_edwards_identity : Nat := 45
noncomputable def f_edwards_identity : Func := f45
theorem at_edwards_identity : prog.funcs[F_edwards_identity]? = some f_edwards_identity := func45
def F_edwards_open : Nat := 46
noncomputable def f_edwards_open : Func := f46
theorem at_edwards_open : prog.funcs[F_edwards_open]? = some f_edwards_open := func46
def F_edwards_point_plus : Nat := 47
noncomputable def f_edwards_point_plus : Func := f47
theorem at_edwards_point_plus : prog.funcs[F_edwards_point_plus]? = some f_edwards_point_plus := func47
def F_edwards_point_times : Nat := 48
noncomputable def f_edwards_point_times : Func := f48
theorem at_edwards_point_times : prog.funcs[F_edwards_point_times]? = some f_edwards_point_times := func48
def F_edwards_point_form : Nat := 49
noncomputable def f_edwards_point_form : Func := f49
theorem at_edwards_point_form : prog.funcs[F_edwards_point_form]? = some f_edwards_point_form := func49
def F_rimeref04_Check : Nat := 50
noncomputable def f_rimeref04_Check : Func := f50
theorem at_rimeref04_Check : prog.funcs[F_rimeref04_Check]? = some f_rimeref04_Check := func50
def F_rimeref04_Identity : Nat := 51
noncomputable def f_rimeref04_Identity : Func := f51
theorem at_rimeref04_Identity : prog.funcs[F_rimeref04_Identity]? = some f_rimeref04_Identity := func51
def F_rimeref04_IsPrime : Nat := 52
noncomputable def f_rimeref04_IsPrime : Func := f52
theorem at_rimeref04_IsPrime : prog.funcs[F_rimeref04_IsPrime]? = some f_rimeref04_IsPrime := func52
def F_rimeref02_Back : Nat := 53
noncomputable def f_rimeref02_Back : Func := f53
theorem at_rimeref02_Back : prog.funcs[F_rimeref02_Back]? = some f_rimeref02_Back := func53
def F_rimeref02_mod : Nat := 54
noncomputable def f_rimeref02_mod : Func := f54
theorem at_rimeref02_mod : prog.funcs[F_rimeref02_mod]? = some f_rimeref02_mod := func54
def F_rimeref02_digits : Nat := 55
noncomputable def f_rimeref02_digits : Func := f55
theorem at_rimeref02_digits : prog.funcs[F_rimeref02_digits]? = some f_rimeref02_digits := func55
def F_rimeref04_Made : Nat := 56
noncomputable def f_rimeref04_Made : Func := f56
theorem at_rimeref04_Made : prog.funcs[F_rimeref04_Made]? = some f_rimeref04_Made := func56
def F_rimeref04_None : Nat := 57
noncomputable def f_rimeref04_None : Func := f57
theorem at_rimeref04_None : prog.funcs[F_rimeref04_None]? = some f_rimeref04_None := func57
def F_rimeref04_Curve_Point : Nat := 58
noncomputable def f_rimeref04_Curve_Point : Func := f58
theorem at_rimeref04_Curve_Point : prog.funcs[F_rimeref04_Curve_Point]? = some f_rimeref04_Curve_Point := func58
def F_rimeref04_Curve_Sum : Nat := 59
noncomputable def f_rimeref04_Curve_Sum : Func := f59
theorem at_rimeref04_Curve_Sum : prog.funcs[F_rimeref04_Curve_Sum]? = some f_rimeref04_Curve_Sum := func59
def F_rimeref04_Curve_Many : Nat := 60
noncomputable def f_rimeref04_Curve_Many : Func := f60
theorem at_rimeref04_Curve_Many : prog.funcs[F_rimeref04_Curve_Many]? = some f_rimeref04_Curve_Many := func60
def F_rimeref04_Form : Nat := 61
noncomputable def f_rimeref04_Form : Func := f61
theorem at_rimeref04_Form : prog.funcs[F_rimeref04_Form]? = some f_rimeref04_Form := func61
def F_suite_number : Nat := 62
noncomputable def f_suite_number : Func := f62
theorem at_suite_number : prog.funcs[F_suite_number]? = some f_suite_number := func62
def F_suite_hashed : Nat := 63
noncomputable def f_suite_hashed : Func := f63
theorem at_suite_hashed : prog.funcs[F_suite_hashed]? = some f_suite_hashed := func63
def F_scalar_IsZero : Nat := 64
noncomputable def f_scalar_IsZero : Func := f64
theorem at_scalar_IsZero : prog.funcs[F_scalar_IsZero]? = some f_scalar_IsZero := func64
def F_edwards_MulBase : Nat := 65
noncomputable def f_edwards_MulBase : Func := f65
theorem at_edwards_MulBase : prog.funcs[F_edwards_MulBase]? = some f_edwards_MulBase := func65
def F_edwards_order : Nat := 66
noncomputable def f_edwards_order : Func := f66
theorem at_edwards_order : prog.funcs[F_edwards_order]? = some f_edwards_order := func66
def F_edwards_point_isIdentity : Nat := 67
noncomputable def f_edwards_point_isIdentity : Func := f67
theorem at_edwards_point_isIdentity : prog.funcs[F_edwards_point_isIdentity]? = some f_edwards_point_isIdentity := func67
def F_bits_Add64 : Nat := 68
noncomputable def f_bits_Add64 : Func := f68
theorem at_bits_Add64 : prog.funcs[F_bits_Add64]? = some f_bits_Add64 := func68
def F_scalar_lowered : Nat := 69
noncomputable def f_scalar_lowered : Func := f69
theorem at_scalar_lowered : prog.funcs[F_scalar_lowered]? = some f_scalar_lowered := func69
def F_scalar_from : Nat := 70
noncomputable def f_scalar_from : Func := f70
theorem at_scalar_from : prog.funcs[F_scalar_from]? = some f_scalar_from := func70
def F_edwards_small : Nat := 71
noncomputable def f_edwards_small : Func := f71
theorem at_edwards_small : prog.funcs[F_edwards_small]? = some f_edwards_small := func71
def F_edwards_load : Nat := 72
noncomputable def f_edwards_load : Func := f72
theorem at_edwards_load : prog.funcs[F_edwards_load]? = some f_edwards_load := func72
def F_edwards_fe_bytes : Nat := 73
noncomputable def f_edwards_fe_bytes : Func := f73
theorem at_edwards_fe_bytes : prog.funcs[F_edwards_fe_bytes]? = some f_edwards_fe_bytes := func73
def F_edwards_fe_square : Nat := 74
noncomputable def f_edwards_fe_square : Func := f74
theorem at_edwards_fe_square : prog.funcs[F_edwards_fe_square]? = some f_edwards_fe_square := func74
def F_edwards_root : Nat := 75
noncomputable def f_edwards_root : Func := f75
theorem at_edwards_root : prog.funcs[F_edwards_root]? = some f_edwards_root := func75
def F_edwards_fe_minus : Nat := 76
noncomputable def f_edwards_fe_minus : Func := f76
theorem at_edwards_fe_minus : prog.funcs[F_edwards_fe_minus]? = some f_edwards_fe_minus := func76
def F_edwards_curve : Nat := 77
noncomputable def f_edwards_curve : Func := f77
theorem at_edwards_curve : prog.funcs[F_edwards_curve]? = some f_edwards_curve := func77
def F_edwards_fe_times : Nat := 78
noncomputable def f_edwards_fe_times : Func := f78
theorem at_edwards_fe_times : prog.funcs[F_edwards_fe_times]? = some f_edwards_fe_times := func78
def F_edwards_fe_plus : Nat := 79
noncomputable def f_edwards_fe_plus : Func := f79
theorem at_edwards_fe_plus : prog.funcs[F_edwards_fe_plus]? = some f_edwards_fe_plus := func79
def F_edwards_fe_odd : Nat := 80
noncomputable def f_edwards_fe_odd : Func := f80
theorem at_edwards_fe_odd : prog.funcs[F_edwards_fe_odd]? = some f_edwards_fe_odd := func80
def F_edwards_point_twice : Nat := 81
noncomputable def f_edwards_point_twice : Func := f81
theorem at_edwards_point_twice : prog.funcs[F_edwards_point_twice]? = some f_edwards_point_twice := func81
def F_edwards_point_xy : Nat := 82
noncomputable def f_edwards_point_xy : Func := f82
theorem at_edwards_point_xy : prog.funcs[F_edwards_point_xy]? = some f_edwards_point_xy := func82
def F_rimeref04_Mul : Nat := 83
noncomputable def f_rimeref04_Mul : Func := f83
theorem at_rimeref04_Mul : prog.funcs[F_rimeref04_Mul]? = some f_rimeref04_Mul := func83
def F_rimeref04_Order : Nat := 84
noncomputable def f_rimeref04_Order : Func := f84
theorem at_rimeref04_Order : prog.funcs[F_rimeref04_Order]? = some f_rimeref04_Order := func84
def F_rimeref02_Order : Nat := 85
noncomputable def f_rimeref02_Order : Func := f85
theorem at_rimeref02_Order : prog.funcs[F_rimeref02_Order]? = some f_rimeref02_Order := func85
def F_rimeref02_twice : Nat := 86
noncomputable def f_rimeref02_twice : Func := f86
theorem at_rimeref02_twice : prog.funcs[F_rimeref02_twice]? = some f_rimeref02_twice := func86
def F_rimeref02_below : Nat := 87
noncomputable def f_rimeref02_below : Func := f87
theorem at_rimeref02_below : prog.funcs[F_rimeref02_below]? = some f_rimeref02_below := func87
def F_rimeref02_minus : Nat := 88
noncomputable def f_rimeref02_minus : Func := f88
theorem at_rimeref02_minus : prog.funcs[F_rimeref02_minus]? = some f_rimeref02_minus := func88
def F_rimeref04_D : Nat := 89
noncomputable def f_rimeref04_D : Func := f89
theorem at_rimeref04_D : prog.funcs[F_rimeref04_D]? = some f_rimeref04_D := func89
def F_rimeref04_SqrtM1 : Nat := 90
noncomputable def f_rimeref04_SqrtM1 : Func := f90
theorem at_rimeref04_SqrtM1 : prog.funcs[F_rimeref04_SqrtM1]? = some f_rimeref04_SqrtM1 := func90
def F_rimeref04_Affine : Nat := 91
noncomputable def f_rimeref04_Affine : Func := f91
theorem at_rimeref04_Affine : prog.funcs[F_rimeref04_Affine]? = some f_rimeref04_Affine := func91
def F_rimeref04_From : Nat := 92
noncomputable def f_rimeref04_From : Func := f92
theorem at_rimeref04_From : prog.funcs[F_rimeref04_From]? = some f_rimeref04_From := func92
def F_rimeref04_Small : Nat := 93
noncomputable def f_rimeref04_Small : Func := f93
theorem at_rimeref04_Small : prog.funcs[F_rimeref04_Small]? = some f_rimeref04_Small := func93
def F_rimeref04_Bytes : Nat := 94
noncomputable def f_rimeref04_Bytes : Func := f94
theorem at_rimeref04_Bytes : prog.funcs[F_rimeref04_Bytes]? = some f_rimeref04_Bytes := func94
def F_rimeref04_Times : Nat := 95
noncomputable def f_rimeref04_Times : Func := f95
theorem at_rimeref04_Times : prog.funcs[F_rimeref04_Times]? = some f_rimeref04_Times := func95
def F_rimeref04_Minus : Nat := 96
noncomputable def f_rimeref04_Minus : Func := f96
theorem at_rimeref04_Minus : prog.funcs[F_rimeref04_Minus]? = some f_rimeref04_Minus := func96
def F_rimeref04_Plus : Nat := 97
noncomputable def f_rimeref04_Plus : Func := f97
theorem at_rimeref04_Plus : prog.funcs[F_rimeref04_Plus]? = some f_rimeref04_Plus := func97
def F_rimeref04_root : Nat := 98
noncomputable def f_rimeref04_root : Func := f98
theorem at_rimeref04_root : prog.funcs[F_rimeref04_root]? = some f_rimeref04_root := func98
def F_rimeref04_Same : Nat := 99
noncomputable def f_rimeref04_Same : Func := f99
theorem at_rimeref04_Same : prog.funcs[F_rimeref04_Same]? = some f_rimeref04_Same := func99
def F_rimeref04_Twice : Nat := 100
noncomputable def f_rimeref04_Twice : Func := f100
theorem at_rimeref04_Twice : prog.funcs[F_rimeref04_Twice]? = some f_rimeref04_Twice := func100
def F_rimeref04_XY : Nat := 101
noncomputable def f_rimeref04_XY : Func := f101
theorem at_rimeref04_XY : prog.funcs[F_rimeref04_XY]? = some f_rimeref04_XY := func101
def F_scalar_Reduce : Nat := 102
noncomputable def f_scalar_Reduce : Func := f102
theorem at_scalar_Reduce : prog.funcs[F_scalar_Reduce]? = some f_scalar_Reduce := func102
def F_sha512_Join : Nat := 103
noncomputable def f_sha512_Join : Func := f103
theorem at_sha512_Join : prog.funcs[F_sha512_Join]? = some f_sha512_Join := func103
def F_edwards_base : Nat := 104
noncomputable def f_edwards_base : Func := f104
theorem at_edwards_base : prog.funcs[F_edwards_base]? = some f_edwards_base := func104
def F_edwards_fe_same : Nat := 105
noncomputable def f_edwards_fe_same : Func := f105
theorem at_edwards_fe_same : prog.funcs[F_edwards_fe_same]? = some f_edwards_fe_same := func105
def F_scalar_less : Nat := 106
noncomputable def f_scalar_less : Func := f106
theorem at_scalar_less : prog.funcs[F_scalar_less]? = some f_scalar_less := func106
def F_scalar_order : Nat := 107
noncomputable def f_scalar_order : Func := f107
theorem at_scalar_order : prog.funcs[F_scalar_order]? = some f_scalar_order := func107
def F_edwards_carried : Nat := 108
noncomputable def f_edwards_carried : Func := f108
theorem at_edwards_carried : prog.funcs[F_edwards_carried]? = some f_edwards_carried := func108
def F_edwards_fe_eighth : Nat := 109
noncomputable def f_edwards_fe_eighth : Func := f109
theorem at_edwards_fe_eighth : prog.funcs[F_edwards_fe_eighth]? = some f_edwards_fe_eighth := func109
def F_edwards_rootOfMinus1 : Nat := 110
noncomputable def f_edwards_rootOfMinus1 : Func := f110
theorem at_edwards_rootOfMinus1 : prog.funcs[F_edwards_rootOfMinus1]? = some f_edwards_rootOfMinus1 := func110
def F_edwards_wide_add : Nat := 111
noncomputable def f_edwards_wide_add : Func := f111
theorem at_edwards_wide_add : prog.funcs[F_edwards_wide_add]? = some f_edwards_wide_add := func111
def F_edwards_fe_inverse : Nat := 112
noncomputable def f_edwards_fe_inverse : Func := f112
theorem at_edwards_fe_inverse : prog.funcs[F_edwards_fe_inverse]? = some f_edwards_fe_inverse := func112
def F_rimeref04_bits : Nat := 113
noncomputable def f_rimeref04_bits : Func := f113
theorem at_rimeref04_bits : prog.funcs[F_rimeref04_bits]? = some f_rimeref04_bits := func113
def F_rimeref04_carry : Nat := 114
noncomputable def f_rimeref04_carry : Func := f114
theorem at_rimeref04_carry : prog.funcs[F_rimeref04_carry]? = some f_rimeref04_carry := func114
def F_rimeref04_power : Nat := 115
noncomputable def f_rimeref04_power : Func := f115
theorem at_rimeref04_power : prog.funcs[F_rimeref04_power]? = some f_rimeref04_power := func115
def F_rimeref04_exponent : Nat := 116
noncomputable def f_rimeref04_exponent : Func := f116
theorem at_rimeref04_exponent : prog.funcs[F_rimeref04_exponent]? = some f_rimeref04_exponent := func116
def F_rimeref04_Invert : Nat := 117
noncomputable def f_rimeref04_Invert : Func := f117
theorem at_rimeref04_Invert : prog.funcs[F_rimeref04_Invert]? = some f_rimeref04_Invert := func117
def F_scalar_times : Nat := 118
noncomputable def f_scalar_times : Func := f118
theorem at_scalar_times : prog.funcs[F_scalar_times]? = some f_scalar_times := func118
def F_sha512_New : Nat := 119
noncomputable def f_sha512_New : Func := f119
theorem at_sha512_New : prog.funcs[F_sha512_New]? = some f_sha512_New := func119
def F_sha512_Hasher_Write : Nat := 120
noncomputable def f_sha512_Hasher_Write : Func := f120
theorem at_sha512_Hasher_Write : prog.funcs[F_sha512_Hasher_Write]? = some f_sha512_Hasher_Write := func120
def F_sha512_Hasher_Sum : Nat := 121
noncomputable def f_sha512_Hasher_Sum : Func := f121
theorem at_sha512_Hasher_Sum : prog.funcs[F_sha512_Hasher_Sum]? = some f_sha512_Hasher_Sum := func121
def F_bits_Sub64 : Nat := 122
noncomputable def f_bits_Sub64 : Func := f122
theorem at_bits_Sub64 : prog.funcs[F_bits_Sub64]? = some f_bits_Sub64 := func122
def F_edwards_fe_chain : Nat := 123
noncomputable def f_edwards_fe_chain : Func := f123
theorem at_edwards_fe_chain : prog.funcs[F_edwards_fe_chain]? = some f_edwards_fe_chain := func123
def F_edwards_fe_squares : Nat := 124
noncomputable def f_edwards_fe_squares : Func := f124
theorem at_edwards_fe_squares : prog.funcs[F_edwards_fe_squares]? = some f_edwards_fe_squares := func124
def F_bits_Mul64 : Nat := 125
noncomputable def f_bits_Mul64 : Func := f125
theorem at_bits_Mul64 : prog.funcs[F_bits_Mul64]? = some f_bits_Mul64 := func125
def F_scalar_mont : Nat := 126
noncomputable def f_scalar_mont : Func := f126
theorem at_scalar_mont : prog.funcs[F_scalar_mont]? = some f_scalar_mont := func126
def F_scalar_radix : Nat := 127
noncomputable def f_scalar_radix : Func := f127
theorem at_scalar_radix : prog.funcs[F_scalar_radix]? = some f_scalar_radix := func127
def F_sha512_Constants : Nat := 128
noncomputable def f_sha512_Constants : Func := f128
theorem at_sha512_Constants : prog.funcs[F_sha512_Constants]? = some f_sha512_Constants := func128
def F_sha512_begin : Nat := 129
noncomputable def f_sha512_begin : Func := f129
theorem at_sha512_begin : prog.funcs[F_sha512_begin]? = some f_sha512_begin := func129
def F_sha512_Hasher_made : Nat := 130
noncomputable def f_sha512_Hasher_made : Func := f130
theorem at_sha512_Hasher_made : prog.funcs[F_sha512_Hasher_made]? = some f_sha512_Hasher_made := func130
def F_sha512_block : Nat := 131
noncomputable def f_sha512_block : Func := f131
theorem at_sha512_block : prog.funcs[F_sha512_block]? = some f_sha512_block := func131
def F_sha512_pad : Nat := 132
noncomputable def f_sha512_pad : Func := f132
theorem at_sha512_pad : prog.funcs[F_sha512_pad]? = some f_sha512_pad := func132
def F_scalar_muladd : Nat := 133
noncomputable def f_scalar_muladd : Func := f133
theorem at_scalar_muladd : prog.funcs[F_scalar_muladd]? = some f_scalar_muladd := func133
def F_sha512_ror : Nat := 134
noncomputable def f_sha512_ror : Func := f134
theorem at_sha512_ror : prog.funcs[F_sha512_ror]? = some f_sha512_ror := func134
def F_bits_RotateLeft64 : Nat := 135
noncomputable def f_bits_RotateLeft64 : Func := f135
theorem at_bits_RotateLeft64 : prog.funcs[F_bits_RotateLeft64]? = some f_bits_RotateLeft64 := func135
end Go.Proofs.YtbogcehngfjlkabGreat
