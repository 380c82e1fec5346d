/-
  Texts of the claim: DTy.
-/
import Derived.Test.YtplaklpfeabhiaaGreatAc
import Derived.KernelRfl
import Derived.Test.YtplaklpfeabhiaaGreatProg
namespace Go.Proofs.YtplaklpfeabhiaaGreat
open Go.Proofs.Tryz
open Go Go.AM
def tt:TT :=
 .node 119 (.node 60 (.node 28 (.node 14 (.node 7 (.node 4 (.node 2 (.leaf 1 ⟨.other,1,8,[.one (.unk)],false⟩)
 (.node 3 (.leaf 2 ⟨.int .i64,1,8,[.ints .i64 1 (fun _=>0)],false⟩)
 (.leaf 3 ⟨.int .i64,1,8,[.ints .i64 1 (fun _=>0)],false⟩)))
 (.node 5 (.leaf 4 ⟨.bool,1,1,[.one (.bool false)],false⟩)
 (.node 6 (.leaf 5 ⟨.int .u8,1,1,[.ints .u8 1 (fun _=>0)],false⟩)
 (.leaf 6 ⟨.int .u8,1,1,[.ints .u8 1 (fun _=>0)],false⟩))))
 (.node 10 (.node 8 (.leaf 7 ⟨.struct [(0,2),(1,3),(2,4),(3,6)],4,24,[.ints .i64 2 (fun _=>0),.one (.bool false),.ints .u8 1 (fun _=>0)],false⟩)
 (.node 9 (.leaf 8 ⟨.struct [(0,2),(1,3),(2,4),(3,6)],4,24,[.ints .i64 2 (fun _=>0),.one (.bool false),.ints .u8 1 (fun _=>0)],false⟩)
 (.leaf 9 ⟨.str,1,16,[.one (.str ⟨#[]⟩)],false⟩)))
 (.node 12 (.node 11 (.leaf 10 ⟨.str,1,16,[.one (.str ⟨#[]⟩)],false⟩)
 (.leaf 11 ⟨.str,1,16,[.one (.str ⟨#[]⟩)],false⟩))
 (.node 13 (.leaf 12 ⟨.int .u64,1,8,[.ints .u64 1 (fun _=>0)],false⟩)
 (.leaf 13 ⟨.struct [(0,9),(1,12)],2,24,[.one (.str ⟨#[]⟩),.ints .u64 1 (fun _=>0)],false⟩)))))
 (.node 21 (.node 17 (.node 15 (.leaf 14 ⟨.struct [(0,9),(1,12)],2,24,[.one (.str ⟨#[]⟩),.ints .u64 1 (fun _=>0)],false⟩)
 (.node 16 (.leaf 15 ⟨.ptr,1,8,[.one (.nilp)],false⟩)
 (.leaf 16 ⟨.ptr,1,8,[.one (.nilp)],false⟩)))
 (.node 19 (.node 18 (.leaf 17 ⟨.ptr,1,8,[.one (.nilp)],false⟩)
 (.leaf 18 ⟨.struct [(0,17)],1,8,[.one (.nilp)],false⟩))
 (.node 20 (.leaf 19 ⟨.struct [(0,17)],1,8,[.one (.nilp)],false⟩)
 (.leaf 20 ⟨.other,1,16,[.one (.raw .nilIface)],false⟩))))
 (.node 24 (.node 22 (.leaf 21 ⟨.int .i32,1,4,[.ints .i32 1 (fun _=>0)],false⟩)
 (.node 23 (.leaf 22 ⟨.slice 63,1,24,[.one (.nils)],false⟩)
 (.leaf 23 ⟨.slice 3,1,24,[.one (.nils)],false⟩)))
 (.node 26 (.node 25 (.leaf 24 ⟨.slice 78,1,24,[.one (.nils)],false⟩)
 (.leaf 25 ⟨.slice 23,1,24,[.one (.nils)],false⟩))
 (.node 27 (.leaf 26 ⟨.slice 81,1,24,[.one (.nils)],false⟩)
 (.leaf 27 ⟨.slice 83,1,24,[.one (.nils)],false⟩))))))
 (.node 42 (.node 35 (.node 31 (.node 29 (.leaf 28 ⟨.slice 22,1,24,[.one (.nils)],false⟩)
 (.node 30 (.leaf 29 ⟨.slice 42,1,24,[.one (.nils)],false⟩)
 (.leaf 30 ⟨.slice 86,1,24,[.one (.nils)],false⟩)))
 (.node 33 (.node 32 (.leaf 31 ⟨.slice 88,1,24,[.one (.nils)],false⟩)
 (.leaf 32 ⟨.slice 48,1,24,[.one (.nils)],false⟩))
 (.node 34 (.leaf 33 ⟨.slice 90,1,24,[.one (.nils)],false⟩)
 (.leaf 34 ⟨.slice 92,1,24,[.one (.nils)],false⟩))))
 (.node 38 (.node 36 (.leaf 35 ⟨.slice 94,1,24,[.one (.nils)],false⟩)
 (.node 37 (.leaf 36 ⟨.slice 96,1,24,[.one (.nils)],false⟩)
 (.leaf 37 ⟨.slice 98,1,24,[.one (.nils)],false⟩)))
 (.node 40 (.node 39 (.leaf 38 ⟨.slice 100,1,24,[.one (.nils)],false⟩)
 (.leaf 39 ⟨.struct [(0,24),(1,24),(2,25),(3,25),(4,26),(5,26),(6,27),(7,27),(8,28),(9,28),(10,29),(11,29),(12,30),(13,30),(14,31),(15,31),(16,32),(17,32),(18,33),(19,33),(20,34),(21,34),(22,35),(23,35),(24,36),(25,36),(26,37),(27,37),(28,38),(29,38)],30,720,[.one (.nils),.one (.nils),.one (.nils),.one (.nils),.one (.nils),.one (.nils),.one (.nils),.one (.nils),.one (.nils),.one (.nils),.one (.nils),.one (.nils),.one (.nils),.one (.nils),.one (.nils),.one (.nils),.one (.nils),.one (.nils),.one (.nils),.one (.nils),.one (.nils),.one (.nils),.one (.nils),.one (.nils),.one (.nils),.one (.nils),.one (.nils),.one (.nils),.one (.nils),.one (.nils)],false⟩))
 (.node 41 (.leaf 40 ⟨.struct [(0,24),(1,24),(2,25),(3,25),(4,26),(5,26),(6,27),(7,27),(8,28),(9,28),(10,29),(11,29),(12,30),(13,30),(14,31),(15,31),(16,32),(17,32),(18,33),(19,33),(20,34),(21,34),(22,35),(23,35),(24,36),(25,36),(26,37),(27,37),(28,38),(29,38)],30,720,[.one (.nils),.one (.nils),.one (.nils),.one (.nils),.one (.nils),.one (.nils),.one (.nils),.one (.nils),.one (.nils),.one (.nils),.one (.nils),.one (.nils),.one (.nils),.one (.nils),.one (.nils),.one (.nils),.one (.nils),.one (.nils),.one (.nils),.one (.nils),.one (.nils),.one (.nils),.one (.nils),.one (.nils),.one (.nils),.one (.nils),.one (.nils),.one (.nils),.one (.nils),.one (.nils)],false⟩)
 (.leaf 41 ⟨.other,1,8,[.one (.unk)],false⟩)))))
 (.node 52 (.node 47 (.node 43 (.leaf 42 ⟨.slice 65,1,24,[.one (.nils)],false⟩)
 (.node 45 (.leaf 43 ⟨.int .i64,1,8,[.ints .i64 1 (fun _=>0)],false⟩)
 (.leaf 45 ⟨.other,1,8,[.one (.unk)],false⟩)))
 (.node 49 (.node 48 (.leaf 47 ⟨.other,1,8,[.one (.unk)],false⟩)
 (.leaf 48 ⟨.slice 102,1,24,[.one (.nils)],false⟩))
 (.node 50 (.leaf 49 ⟨.struct [(0,42),(1,48)],2,48,[.one (.nils),.one (.nils)],false⟩)
 (.leaf 50 ⟨.struct [(0,42),(1,48)],2,48,[.one (.nils),.one (.nils)],false⟩))))
 (.node 56 (.node 53 (.leaf 52 ⟨.other,1,8,[.one (.unk)],false⟩)
 (.node 55 (.leaf 53 ⟨.other,1,8,[.one (.unk)],false⟩)
 (.leaf 55 ⟨.other,1,8,[.one (.unk)],false⟩)))
 (.node 58 (.node 57 (.leaf 56 ⟨.other,1,8,[.one (.unk)],false⟩)
 (.leaf 57 ⟨.other,1,8,[.one (.unk)],false⟩))
 (.node 59 (.leaf 58 ⟨.other,1,8,[.one (.unk)],false⟩)
 (.leaf 59 ⟨.other,1,8,[.one (.unk)],false⟩)))))))
 (.node 91 (.node 77 (.node 67 (.node 63 (.node 61 (.leaf 60 ⟨.other,1,8,[.one (.unk)],false⟩)
 (.node 62 (.leaf 61 ⟨.ptr,1,8,[.one (.nilp)],false⟩)
 (.leaf 62 ⟨.arr 32 5,32,32,[.ints .u8 32 (fun _=>0)],true⟩)))
 (.node 64 (.leaf 63 ⟨.arr 32 5,32,32,[.ints .u8 32 (fun _=>0)],true⟩)
 (.node 65 (.leaf 64 ⟨.other,1,8,[.one (.unk)],false⟩)
 (.leaf 65 ⟨.arr 32 5,32,32,[.ints .u8 32 (fun _=>0)],true⟩))))
 (.node 72 (.node 68 (.leaf 67 ⟨.other,1,8,[.one (.unk)],false⟩)
 (.node 70 (.leaf 68 ⟨.other,1,8,[.one (.unk)],false⟩)
 (.leaf 70 ⟨.other,1,8,[.one (.unk)],false⟩)))
 (.node 75 (.node 73 (.leaf 72 ⟨.other,1,8,[.one (.unk)],false⟩)
 (.leaf 73 ⟨.other,1,8,[.one (.unk)],false⟩))
 (.node 76 (.leaf 75 ⟨.other,1,8,[.one (.unk)],false⟩)
 (.leaf 76 ⟨.other,1,8,[.one (.unk)],false⟩)))))
 (.node 84 (.node 80 (.node 78 (.leaf 77 ⟨.other,1,8,[.one (.unk)],false⟩)
 (.node 79 (.leaf 78 ⟨.slice 5,1,24,[.one (.nils)],false⟩)
 (.leaf 79 ⟨.other,1,8,[.one (.unk)],false⟩)))
 (.node 82 (.node 81 (.leaf 80 ⟨.other,1,8,[.one (.unk)],false⟩)
 (.leaf 81 ⟨.slice 108,1,24,[.one (.nils)],false⟩))
 (.node 83 (.leaf 82 ⟨.other,1,8,[.one (.unk)],false⟩)
 (.leaf 83 ⟨.slice 117,1,24,[.one (.nils)],false⟩))))
 (.node 87 (.node 85 (.leaf 84 ⟨.other,1,8,[.one (.unk)],false⟩)
 (.node 86 (.leaf 85 ⟨.other,1,8,[.one (.unk)],false⟩)
 (.leaf 86 ⟨.slice 118,1,24,[.one (.nils)],false⟩)))
 (.node 89 (.node 88 (.leaf 87 ⟨.other,1,8,[.one (.unk)],false⟩)
 (.leaf 88 ⟨.slice 119,1,24,[.one (.nils)],false⟩))
 (.node 90 (.leaf 89 ⟨.other,1,8,[.one (.unk)],false⟩)
 (.leaf 90 ⟨.slice 120,1,24,[.one (.nils)],false⟩))))))
 (.node 105 (.node 98 (.node 94 (.node 92 (.leaf 91 ⟨.other,1,8,[.one (.unk)],false⟩)
 (.node 93 (.leaf 92 ⟨.slice 121,1,24,[.one (.nils)],false⟩)
 (.leaf 93 ⟨.other,1,8,[.one (.unk)],false⟩)))
 (.node 96 (.node 95 (.leaf 94 ⟨.slice 123,1,24,[.one (.nils)],false⟩)
 (.leaf 95 ⟨.other,1,8,[.one (.unk)],false⟩))
 (.node 97 (.leaf 96 ⟨.slice 125,1,24,[.one (.nils)],false⟩)
 (.leaf 97 ⟨.other,1,8,[.one (.unk)],false⟩))))
 (.node 101 (.node 99 (.leaf 98 ⟨.slice 127,1,24,[.one (.nils)],false⟩)
 (.node 100 (.leaf 99 ⟨.other,1,8,[.one (.unk)],false⟩)
 (.leaf 100 ⟨.slice 129,1,24,[.one (.nils)],false⟩)))
 (.node 103 (.node 102 (.leaf 101 ⟨.struct [(0,3),(1,63)],33,40,[.ints .i64 1 (fun _=>0),.ints .u8 32 (fun _=>0)],true⟩)
 (.leaf 102 ⟨.struct [(0,3),(1,63)],33,40,[.ints .i64 1 (fun _=>0),.ints .u8 32 (fun _=>0)],true⟩))
 (.node 104 (.leaf 103 ⟨.other,1,8,[.one (.unk)],false⟩)
 (.leaf 104 ⟨.other,1,8,[.one (.unk)],false⟩)))))
 (.node 112 (.node 108 (.node 106 (.leaf 105 ⟨.int .u64,1,8,[.ints .u64 1 (fun _=>0)],false⟩)
 (.node 107 (.leaf 106 ⟨.other,1,8,[.one (.unk)],false⟩)
 (.leaf 107 ⟨.other,1,8,[.one (.unk)],false⟩)))
 (.node 110 (.node 109 (.leaf 108 ⟨.int .u32,1,4,[.ints .u32 1 (fun _=>0)],false⟩)
 (.leaf 109 ⟨.arr 8 108,8,32,[.ints .u32 8 (fun _=>0)],true⟩))
 (.node 111 (.leaf 110 ⟨.arr 8 108,8,32,[.ints .u32 8 (fun _=>0)],true⟩)
 (.leaf 111 ⟨.other,1,8,[.one (.unk)],false⟩))))
 (.node 115 (.node 113 (.leaf 112 ⟨.other,1,8,[.one (.unk)],false⟩)
 (.node 114 (.leaf 113 ⟨.other,1,8,[.one (.unk)],false⟩)
 (.leaf 114 ⟨.other,1,8,[.one (.unk)],false⟩)))
 (.node 117 (.node 116 (.leaf 115 ⟨.other,1,8,[.one (.unk)],false⟩)
 (.leaf 116 ⟨.other,1,8,[.one (.unk)],false⟩))
 (.node 118 (.leaf 117 ⟨.arr 32 5,32,32,[.ints .u8 32 (fun _=>0)],true⟩)
 (.leaf 118 ⟨.arr 32 5,32,32,[.ints .u8 32 (fun _=>0)],true⟩))))))))
 (.node 176 (.node 146 (.node 132 (.node 125 (.node 122 (.node 120 (.leaf 119 ⟨.arr 32 5,32,32,[.ints .u8 32 (fun _=>0)],true⟩)
 (.node 121 (.leaf 120 ⟨.struct [(0,3),(1,63)],33,40,[.ints .i64 1 (fun _=>0),.ints .u8 32 (fun _=>0)],true⟩)
 (.leaf 121 ⟨.struct [(0,3),(1,63)],33,40,[.ints .i64 1 (fun _=>0),.ints .u8 32 (fun _=>0)],true⟩)))
 (.node 123 (.leaf 122 ⟨.struct [(0,3),(1,65),(33,65)],65,72,[.ints .i64 1 (fun _=>0),.ints .u8 64 (fun _=>0)],true⟩)
 (.node 124 (.leaf 123 ⟨.struct [(0,3),(1,65),(33,65)],65,72,[.ints .i64 1 (fun _=>0),.ints .u8 64 (fun _=>0)],true⟩)
 (.leaf 124 ⟨.struct [(0,3),(1,65)],33,40,[.ints .i64 1 (fun _=>0),.ints .u8 32 (fun _=>0)],true⟩))))
 (.node 128 (.node 126 (.leaf 125 ⟨.struct [(0,3),(1,65)],33,40,[.ints .i64 1 (fun _=>0),.ints .u8 32 (fun _=>0)],true⟩)
 (.node 127 (.leaf 126 ⟨.struct [(0,3),(1,3),(2,63)],34,48,[.ints .i64 2 (fun _=>0),.ints .u8 32 (fun _=>0)],true⟩)
 (.leaf 127 ⟨.struct [(0,3),(1,3),(2,63)],34,48,[.ints .i64 2 (fun _=>0),.ints .u8 32 (fun _=>0)],true⟩)))
 (.node 130 (.node 129 (.leaf 128 ⟨.struct [(0,3),(1,3)],2,16,[.ints .i64 2 (fun _=>0)],true⟩)
 (.leaf 129 ⟨.struct [(0,3),(1,3)],2,16,[.ints .i64 2 (fun _=>0)],true⟩))
 (.node 131 (.leaf 130 ⟨.other,1,8,[.one (.unk)],false⟩)
 (.leaf 131 ⟨.other,1,8,[.one (.unk)],false⟩)))))
 (.node 139 (.node 135 (.node 133 (.leaf 132 ⟨.int .u64,1,8,[.ints .u64 1 (fun _=>0)],false⟩)
 (.node 134 (.leaf 133 ⟨.arr 4 132,4,32,[.ints .u64 4 (fun _=>0)],true⟩)
 (.leaf 134 ⟨.arr 4 132,4,32,[.ints .u64 4 (fun _=>0)],true⟩)))
 (.node 137 (.node 136 (.leaf 135 ⟨.other,1,8,[.one (.unk)],false⟩)
 (.leaf 136 ⟨.other,1,8,[.one (.unk)],false⟩))
 (.node 138 (.leaf 137 ⟨.arr 5 132,5,40,[.ints .u64 5 (fun _=>0)],true⟩)
 (.leaf 138 ⟨.arr 5 132,5,40,[.ints .u64 5 (fun _=>0)],true⟩))))
 (.node 142 (.node 140 (.leaf 139 ⟨.struct [(0,138),(5,138),(10,138),(15,138)],20,160,[.ints .u64 20 (fun _=>0)],true⟩)
 (.node 141 (.leaf 140 ⟨.struct [(0,138),(5,138),(10,138),(15,138)],20,160,[.ints .u64 20 (fun _=>0)],true⟩)
 (.leaf 141 ⟨.other,1,8,[.one (.unk)],false⟩)))
 (.node 144 (.node 143 (.leaf 142 ⟨.other,1,8,[.one (.unk)],false⟩)
 (.leaf 143 ⟨.other,1,8,[.one (.unk)],false⟩))
 (.node 145 (.leaf 144 ⟨.other,1,8,[.one (.unk)],false⟩)
 (.leaf 145 ⟨.other,1,8,[.one (.unk)],false⟩))))))
 (.node 160 (.node 153 (.node 149 (.node 147 (.leaf 146 ⟨.other,1,8,[.one (.unk)],false⟩)
 (.node 148 (.leaf 147 ⟨.arr 10 2,10,80,[.ints .i64 10 (fun _=>0)],true⟩)
 (.leaf 148 ⟨.arr 10 2,10,80,[.ints .i64 10 (fun _=>0)],true⟩)))
 (.node 151 (.node 150 (.leaf 149 ⟨.struct [(0,148),(10,148),(20,148),(30,148)],40,320,[.ints .i64 40 (fun _=>0)],true⟩)
 (.leaf 150 ⟨.struct [(0,148),(10,148),(20,148),(30,148)],40,320,[.ints .i64 40 (fun _=>0)],true⟩))
 (.node 152 (.leaf 151 ⟨.struct [(0,148),(10,148),(20,150)],60,480,[.ints .i64 60 (fun _=>0)],true⟩)
 (.leaf 152 ⟨.struct [(0,148),(10,148),(20,150)],60,480,[.ints .i64 60 (fun _=>0)],true⟩))))
 (.node 156 (.node 154 (.leaf 153 ⟨.other,1,8,[.one (.unk)],false⟩)
 (.node 155 (.leaf 154 ⟨.other,1,8,[.one (.unk)],false⟩)
 (.leaf 155 ⟨.other,1,8,[.one (.unk)],false⟩)))
 (.node 158 (.node 157 (.leaf 156 ⟨.map 3 3,1,8,[.one (.nilm)],false⟩)
 (.leaf 157 ⟨.other,1,8,[.one (.unk)],false⟩))
 (.node 159 (.leaf 158 ⟨.other,1,8,[.one (.unk)],false⟩)
 (.leaf 159 ⟨.other,1,8,[.one (.unk)],false⟩)))))
 (.node 168 (.node 164 (.node 161 (.leaf 160 ⟨.other,1,8,[.one (.unk)],false⟩)
 (.node 163 (.leaf 161 ⟨.other,1,8,[.one (.unk)],false⟩)
 (.leaf 163 ⟨.other,1,8,[.one (.unk)],false⟩)))
 (.node 166 (.node 165 (.leaf 164 ⟨.other,1,8,[.one (.unk)],false⟩)
 (.leaf 165 ⟨.other,1,8,[.one (.unk)],false⟩))
 (.node 167 (.leaf 166 ⟨.other,1,8,[.one (.unk)],false⟩)
 (.leaf 167 ⟨.other,1,8,[.one (.unk)],false⟩))))
 (.node 172 (.node 169 (.leaf 168 ⟨.arr 16 140,320,2560,[.ints .u64 320 (fun _=>0)],true⟩)
 (.node 171 (.leaf 169 ⟨.other,1,8,[.one (.unk)],false⟩)
 (.leaf 171 ⟨.other,1,8,[.one (.unk)],false⟩)))
 (.node 174 (.node 173 (.leaf 172 ⟨.other,1,8,[.one (.unk)],false⟩)
 (.leaf 173 ⟨.other,1,8,[.one (.unk)],false⟩))
 (.node 175 (.leaf 174 ⟨.other,1,8,[.one (.unk)],false⟩)
 (.leaf 175 ⟨.other,1,8,[.one (.unk)],false⟩)))))))
 (.node 206 (.node 191 (.node 183 (.node 179 (.node 177 (.leaf 176 ⟨.other,1,8,[.one (.unk)],false⟩)
 (.node 178 (.leaf 177 ⟨.other,1,8,[.one (.unk)],false⟩)
 (.leaf 178 ⟨.other,1,8,[.one (.unk)],false⟩)))
 (.node 181 (.leaf 179 ⟨.other,1,8,[.one (.unk)],false⟩)
 (.node 182 (.leaf 181 ⟨.other,1,8,[.one (.unk)],false⟩)
 (.leaf 182 ⟨.other,1,8,[.one (.unk)],false⟩))))
 (.node 186 (.node 184 (.leaf 183 ⟨.arr 16 150,640,5120,[.ints .i64 640 (fun _=>0)],true⟩)
 (.node 185 (.leaf 184 ⟨.other,1,8,[.one (.unk)],false⟩)
 (.leaf 185 ⟨.other,1,8,[.one (.unk)],false⟩)))
 (.node 189 (.node 187 (.leaf 186 ⟨.other,1,8,[.one (.unk)],false⟩)
 (.leaf 187 ⟨.other,1,8,[.one (.unk)],false⟩))
 (.node 190 (.leaf 189 ⟨.other,1,8,[.one (.unk)],false⟩)
 (.leaf 190 ⟨.other,1,8,[.one (.unk)],false⟩)))))
 (.node 198 (.node 194 (.node 192 (.leaf 191 ⟨.other,1,8,[.one (.unk)],false⟩)
 (.node 193 (.leaf 192 ⟨.other,1,8,[.one (.unk)],false⟩)
 (.leaf 193 ⟨.struct [(0,132),(1,132)],2,16,[.ints .u64 2 (fun _=>0)],true⟩)))
 (.node 196 (.node 195 (.leaf 194 ⟨.struct [(0,132),(1,132)],2,16,[.ints .u64 2 (fun _=>0)],true⟩)
 (.leaf 195 ⟨.arr 5 194,10,80,[.ints .u64 10 (fun _=>0)],true⟩))
 (.node 197 (.leaf 196 ⟨.other,1,8,[.one (.unk)],false⟩)
 (.leaf 197 ⟨.other,1,8,[.one (.unk)],false⟩))))
 (.node 201 (.node 199 (.leaf 198 ⟨.other,1,8,[.one (.unk)],false⟩)
 (.node 200 (.leaf 199 ⟨.other,1,8,[.one (.unk)],false⟩)
 (.leaf 200 ⟨.other,1,8,[.one (.unk)],false⟩)))
 (.node 203 (.node 202 (.leaf 201 ⟨.other,1,8,[.one (.unk)],false⟩)
 (.leaf 202 ⟨.other,1,8,[.one (.unk)],false⟩))
 (.node 205 (.leaf 203 ⟨.other,1,8,[.one (.unk)],false⟩)
 (.leaf 205 ⟨.other,1,8,[.one (.unk)],false⟩))))))
 (.node 222 (.node 214 (.node 209 (.node 207 (.leaf 206 ⟨.ptr,1,8,[.one (.nilp)],false⟩)
 (.node 208 (.leaf 207 ⟨.other,1,8,[.one (.unk)],false⟩)
 (.leaf 208 ⟨.other,1,8,[.one (.unk)],false⟩)))
 (.node 211 (.node 210 (.leaf 209 ⟨.other,1,8,[.one (.unk)],false⟩)
 (.leaf 210 ⟨.other,1,8,[.one (.unk)],false⟩))
 (.node 212 (.leaf 211 ⟨.arr 6 132,6,48,[.ints .u64 6 (fun _=>0)],true⟩)
 (.leaf 212 ⟨.other,1,8,[.one (.unk)],false⟩))))
 (.node 218 (.node 216 (.leaf 214 ⟨.other,1,8,[.one (.unk)],false⟩)
 (.node 217 (.leaf 216 ⟨.other,1,8,[.one (.unk)],false⟩)
 (.leaf 217 ⟨.other,1,8,[.one (.unk)],false⟩)))
 (.node 220 (.node 219 (.leaf 218 ⟨.other,1,8,[.one (.unk)],false⟩)
 (.leaf 219 ⟨.other,1,8,[.one (.unk)],false⟩))
 (.node 221 (.leaf 220 ⟨.struct [(0,17),(1,17),(2,17),(3,9)],4,40,[.one (.nilp),.one (.nilp),.one (.nilp),.one (.str ⟨#[]⟩)],false⟩)
 (.leaf 221 ⟨.struct [(0,17),(1,17),(2,17),(3,9)],4,40,[.one (.nilp),.one (.nilp),.one (.nilp),.one (.str ⟨#[]⟩)],false⟩)))))
 (.node 229 (.node 225 (.node 223 (.leaf 222 ⟨.arr 0 16,0,0,[],false⟩)
 (.node 224 (.leaf 223 ⟨.struct [(0,222)],0,0,[],false⟩)
 (.leaf 224 ⟨.struct [(0,222)],0,0,[],false⟩)))
 (.node 227 (.node 226 (.leaf 225 ⟨.other,1,8,[.one (.unk)],false⟩)
 (.leaf 226 ⟨.int .u8,1,1,[.ints .u8 1 (fun _=>0)],false⟩))
 (.node 228 (.leaf 227 ⟨.int .u8,1,1,[.ints .u8 1 (fun _=>0)],false⟩)
 (.leaf 228 ⟨.other,1,8,[.one (.unk)],false⟩))))
 (.node 232 (.node 230 (.leaf 229 ⟨.ptr,1,8,[.one (.nilp)],false⟩)
 (.node 231 (.leaf 230 ⟨.int .i32,1,4,[.ints .i32 1 (fun _=>0)],false⟩)
 (.leaf 231 ⟨.int .i32,1,4,[.ints .i32 1 (fun _=>0)],false⟩)))
 (.node 234 (.node 233 (.leaf 232 ⟨.struct [(0,12),(1,12),(2,108),(3,226),(4,5),(5,5),(6,227),(7,228),(8,229),(9,230),(10,231)],11,48,[.ints .u64 2 (fun _=>0),.ints .u32 1 (fun _=>0),.ints .u8 4 (fun _=>0),.one (.unk),.one (.nilp),.ints .i32 2 (fun _=>0)],false⟩)
 (.leaf 233 ⟨.struct [(0,12),(1,12),(2,108),(3,226),(4,5),(5,5),(6,227),(7,228),(8,229),(9,230),(10,231)],11,48,[.ints .u64 2 (fun _=>0),.ints .u32 1 (fun _=>0),.ints .u8 4 (fun _=>0),.one (.unk),.one (.nilp),.ints .i32 2 (fun _=>0)],false⟩))
 (.node 235 (.leaf 234 ⟨.other,1,8,[.one (.unk)],false⟩)
 (.leaf 235 ⟨.other,1,8,[.one (.nilp)],false⟩))))))))
theorem tt_ok:tt.chk prog=true:=by kernel_rfl
theorem mix:prog.follows .mixedOrders=true:=by kernel_rfl
def F_rimelaw08_VssDeals:Nat:=3
noncomputable def f_rimelaw08_VssDeals:Func:=f3
theorem at_rimelaw08_VssDeals:prog.funcs[F_rimelaw08_VssDeals]?=some f_rimelaw08_VssDeals:=func3
def F_rimeplain_Given_Scalars:Nat:=4
noncomputable def f_rimeplain_Given_Scalars:Func:=f4
theorem at_rimeplain_Given_Scalars:prog.funcs[F_rimeplain_Given_Scalars]?=some f_rimeplain_Given_Scalars:=func4
def F_vss_Commit:Nat:=5
noncomputable def f_vss_Commit:Func:=f5
theorem at_vss_Commit:prog.funcs[F_vss_Commit]?=some f_vss_Commit:=func5
def F_rimeref08_Commit:Nat:=6
noncomputable def f_rimeref08_Commit:Func:=f6
theorem at_rimeref08_Commit:prog.funcs[F_rimeref08_Commit]?=some f_rimeref08_Commit:=func6
def F_vss_Deal:Nat:=7
noncomputable def f_vss_Deal:Func:=f7
theorem at_vss_Deal:prog.funcs[F_vss_Deal]?=some f_vss_Deal:=func7
def F_rimeplain_Given_Ints:Nat:=8
noncomputable def f_rimeplain_Given_Ints:Func:=f8
theorem at_rimeplain_Given_Ints:prog.funcs[F_rimeplain_Given_Ints]?=some f_rimeplain_Given_Ints:=func8
def F_rimeref08_Deal:Nat:=9
noncomputable def f_rimeref08_Deal:Func:=f9
theorem at_rimeref08_Deal:prog.funcs[F_rimeref08_Deal]?=some f_rimeref08_Deal:=func9
def F_rimeplain_SameElements:Nat:=10
noncomputable def f_rimeplain_SameElements:Func:=f10
theorem at_rimeplain_SameElements:prog.funcs[F_rimeplain_SameElements]?=some f_rimeplain_SameElements:=func10
def F_rimelaw08_num:Nat:=11
noncomputable def f_rimelaw08_num:Func:=f11
theorem at_rimelaw08_num:prog.funcs[F_rimelaw08_num]?=some f_rimelaw08_num:=func11
def F_rimeplain_SameDeal:Nat:=12
noncomputable def f_rimeplain_SameDeal:Func:=f12
theorem at_rimeplain_SameDeal:prog.funcs[F_rimeplain_SameDeal]?=some f_rimeplain_SameDeal:=func12
def F_rimeplain_Given_Intact:Nat:=13
noncomputable def f_rimeplain_Given_Intact:Func:=f13
theorem at_rimeplain_Given_Intact:prog.funcs[F_rimeplain_Given_Intact]?=some f_rimeplain_Given_Intact:=func13
def F_rimelaw08_works:Nat:=14
noncomputable def f_rimelaw08_works:Func:=f14
theorem at_rimelaw08_works:prog.funcs[F_rimelaw08_works]?=some f_rimelaw08_works:=func14
def F_rimeplain_markScalars:Nat:=15
noncomputable def f_rimeplain_markScalars:Func:=f15
theorem at_rimeplain_markScalars:prog.funcs[F_rimeplain_markScalars]?=some f_rimeplain_markScalars:=func15
def F_rimeplain_CopyScalars:Nat:=16
noncomputable def f_rimeplain_CopyScalars:Func:=f16
theorem at_rimeplain_CopyScalars:prog.funcs[F_rimeplain_CopyScalars]?=some f_rimeplain_CopyScalars:=func16
def F_suite_Exp:Nat:=17
noncomputable def f_suite_Exp:Func:=f17
theorem at_suite_Exp:prog.funcs[F_suite_Exp]?=some f_suite_Exp:=func17
def F_rimeref02_IsZero:Nat:=18
noncomputable def f_rimeref02_IsZero:Func:=f18
theorem at_rimeref02_IsZero:prog.funcs[F_rimeref02_IsZero]?=some f_rimeref02_IsZero:=func18
def F_rimeref06_Exp:Nat:=19
noncomputable def f_rimeref06_Exp:Func:=f19
theorem at_rimeref06_Exp:prog.funcs[F_rimeref06_Exp]?=some f_rimeref06_Exp:=func19
def F_shamir_Split:Nat:=20
noncomputable def f_shamir_Split:Func:=f20
theorem at_shamir_Split:prog.funcs[F_shamir_Split]?=some f_shamir_Split:=func20
def F_rimeplain_markInts:Nat:=21
noncomputable def f_rimeplain_markInts:Func:=f21
theorem at_rimeplain_markInts:prog.funcs[F_rimeplain_markInts]?=some f_rimeplain_markInts:=func21
def F_rimeplain_CopyInts:Nat:=22
noncomputable def f_rimeplain_CopyInts:Func:=f22
theorem at_rimeplain_CopyInts:prog.funcs[F_rimeplain_CopyInts]?=some f_rimeplain_CopyInts:=func22
def F_rimeref07_Split:Nat:=23
noncomputable def f_rimeref07_Split:Func:=f23
theorem at_rimeref07_Split:prog.funcs[F_rimeref07_Split]?=some f_rimeref07_Split:=func23
def F_rimeplain_SameShares:Nat:=24
noncomputable def f_rimeplain_SameShares:Func:=f24
theorem at_rimeplain_SameShares:prog.funcs[F_rimeplain_SameShares]?=some f_rimeplain_SameShares:=func24
def F_rimeplain_SameInts:Nat:=26
noncomputable def f_rimeplain_SameInts:Func:=f26
theorem at_rimeplain_SameInts:prog.funcs[F_rimeplain_SameInts]?=some f_rimeplain_SameInts:=func26
def F_rimeplain_SameScalars:Nat:=29
noncomputable def f_rimeplain_SameScalars:Func:=f29
theorem at_rimeplain_SameScalars:prog.funcs[F_rimeplain_SameScalars]?=some f_rimeplain_SameScalars:=func29
def F_vss_Group:Nat:=38
noncomputable def f_vss_Group:Func:=f38
theorem at_vss_Group:prog.funcs[F_vss_Group]?=some f_vss_Group:=func38
def F_vss_Check:Nat:=39
noncomputable def f_vss_Check:Func:=f39
theorem at_vss_Check:prog.funcs[F_vss_Check]?=some f_vss_Check:=func39
def F_scalar_Add:Nat:=40
noncomputable def f_scalar_Add:Func:=f40
theorem at_scalar_Add:prog.funcs[F_scalar_Add]?=some f_scalar_Add:=func40
def F_scalar_IsZero:Nat:=41
noncomputable def f_scalar_IsZero:Func:=f41
theorem at_scalar_IsZero:prog.funcs[F_scalar_IsZero]?=some f_scalar_IsZero:=func41
def F_edwards_MulBase:Nat:=42
noncomputable def f_edwards_MulBase:Func:=f42
theorem at_edwards_MulBase:prog.funcs[F_edwards_MulBase]?=some f_edwards_MulBase:=func42
def F_rimeref02_Value:Nat:=43
noncomputable def f_rimeref02_Value:Func:=f43
theorem at_rimeref02_Value:prog.funcs[F_rimeref02_Value]?=some f_rimeref02_Value:=func43
def F_rimeref02_Reduce:Nat:=44
noncomputable def f_rimeref02_Reduce:Func:=f44
theorem at_rimeref02_Reduce:prog.funcs[F_rimeref02_Reduce]?=some f_rimeref02_Reduce:=func44
def F_rimeref04_MulBase:Nat:=45
noncomputable def f_rimeref04_MulBase:Func:=f45
theorem at_rimeref04_MulBase:prog.funcs[F_rimeref04_MulBase]?=some f_rimeref04_MulBase:=func45
def F_shamir_listed:Nat:=46
noncomputable def f_shamir_listed:Func:=f46
theorem at_shamir_listed:prog.funcs[F_shamir_listed]?=some f_shamir_listed:=func46
def F_shamir_Eval:Nat:=47
noncomputable def f_shamir_Eval:Func:=f47
theorem at_shamir_Eval:prog.funcs[F_shamir_Eval]?=some f_shamir_Eval:=func47
def F_shamir_place:Nat:=48
noncomputable def f_shamir_place:Func:=f48
theorem at_shamir_place:prog.funcs[F_shamir_place]?=some f_shamir_place:=func48
def F_rimeref07_IDs:Nat:=49
noncomputable def f_rimeref07_IDs:Func:=f49
theorem at_rimeref07_IDs:prog.funcs[F_rimeref07_IDs]?=some f_rimeref07_IDs:=func49
def F_rimeref07_Eval:Nat:=50
noncomputable def f_rimeref07_Eval:Func:=f50
theorem at_rimeref07_Eval:prog.funcs[F_rimeref07_Eval]?=some f_rimeref07_Eval:=func50
def F_rimeref07_Place:Nat:=51
noncomputable def f_rimeref07_Place:Func:=f51
theorem at_rimeref07_Place:prog.funcs[F_rimeref07_Place]?=some f_rimeref07_Place:=func51
def F_vss_CheckCommits:Nat:=52
noncomputable def f_vss_CheckCommits:Func:=f52
theorem at_vss_CheckCommits:prog.funcs[F_vss_CheckCommits]?=some f_vss_CheckCommits:=func52
def F_vss_fits:Nat:=53
noncomputable def f_vss_fits:Func:=f53
theorem at_vss_fits:prog.funcs[F_vss_fits]?=some f_vss_fits:=func53
def F_scalar_back:Nat:=54
noncomputable def f_scalar_back:Func:=f54
theorem at_scalar_back:prog.funcs[F_scalar_back]?=some f_scalar_back:=func54
def F_scalar_plus:Nat:=55
noncomputable def f_scalar_plus:Func:=f55
theorem at_scalar_plus:prog.funcs[F_scalar_plus]?=some f_scalar_plus:=func55
def F_scalar_value:Nat:=56
noncomputable def f_scalar_value:Func:=f56
theorem at_scalar_value:prog.funcs[F_scalar_value]?=some f_scalar_value:=func56
def F_edwards_base:Nat:=57
noncomputable def f_edwards_base:Func:=f57
theorem at_edwards_base:prog.funcs[F_edwards_base]?=some f_edwards_base:=func57
def F_edwards_point_times:Nat:=58
noncomputable def f_edwards_point_times:Func:=f58
theorem at_edwards_point_times:prog.funcs[F_edwards_point_times]?=some f_edwards_point_times:=func58
def F_edwards_point_form:Nat:=59
noncomputable def f_edwards_point_form:Func:=f59
theorem at_edwards_point_form:prog.funcs[F_edwards_point_form]?=some f_edwards_point_form:=func59
def F_rimeref02_mod:Nat:=60
noncomputable def f_rimeref02_mod:Func:=f60
theorem at_rimeref02_mod:prog.funcs[F_rimeref02_mod]?=some f_rimeref02_mod:=func60
def F_rimeref02_digits:Nat:=61
noncomputable def f_rimeref02_digits:Func:=f61
theorem at_rimeref02_digits:prog.funcs[F_rimeref02_digits]?=some f_rimeref02_digits:=func61
def F_rimeref02_Back:Nat:=62
noncomputable def f_rimeref02_Back:Func:=f62
theorem at_rimeref02_Back:prog.funcs[F_rimeref02_Back]?=some f_rimeref02_Back:=func62
def F_rimeref04_Made:Nat:=63
noncomputable def f_rimeref04_Made:Func:=f63
theorem at_rimeref04_Made:prog.funcs[F_rimeref04_Made]?=some f_rimeref04_Made:=func63
def F_rimeref04_Form:Nat:=64
noncomputable def f_rimeref04_Form:Func:=f64
theorem at_rimeref04_Form:prog.funcs[F_rimeref04_Form]?=some f_rimeref04_Form:=func64
def F_rimeref04_Curve_Many:Nat:=65
noncomputable def f_rimeref04_Curve_Many:Func:=f65
theorem at_rimeref04_Curve_Many:prog.funcs[F_rimeref04_Curve_Many]?=some f_rimeref04_Curve_Many:=func65
def F_shamir_may:Nat:=66
noncomputable def f_shamir_may:Func:=f66
theorem at_shamir_may:prog.funcs[F_shamir_may]?=some f_shamir_may:=func66
def F_scalar_MulAdd:Nat:=67
noncomputable def f_scalar_MulAdd:Func:=f67
theorem at_scalar_MulAdd:prog.funcs[F_scalar_MulAdd]?=some f_scalar_MulAdd:=func67
def F_scalar_FromInt:Nat:=68
noncomputable def f_scalar_FromInt:Func:=f68
theorem at_scalar_FromInt:prog.funcs[F_scalar_FromInt]?=some f_scalar_FromInt:=func68
def F_rimeref02_MulAdd:Nat:=69
noncomputable def f_rimeref02_MulAdd:Func:=f69
theorem at_rimeref02_MulAdd:prog.funcs[F_rimeref02_MulAdd]?=some f_rimeref02_MulAdd:=func69
def F_rimeref02_FromInt:Nat:=70
noncomputable def f_rimeref02_FromInt:Func:=f70
theorem at_rimeref02_FromInt:prog.funcs[F_rimeref02_FromInt]?=some f_rimeref02_FromInt:=func70
def F_vss_isElement:Nat:=71
noncomputable def f_vss_isElement:Func:=f71
theorem at_vss_isElement:prog.funcs[F_vss_isElement]?=some f_vss_isElement:=func71
def F_vss_isID:Nat:=72
noncomputable def f_vss_isID:Func:=f72
theorem at_vss_isID:prog.funcs[F_vss_isID]?=some f_vss_isID:=func72
def F_scalar_Canonical:Nat:=73
noncomputable def f_scalar_Canonical:Func:=f73
theorem at_scalar_Canonical:prog.funcs[F_scalar_Canonical]?=some f_scalar_Canonical:=func73
def F_vss_at:Nat:=74
noncomputable def f_vss_at:Func:=f74
theorem at_vss_at:prog.funcs[F_vss_at]?=some f_vss_at:=func74
def F_bits_Add64:Nat:=75
noncomputable def f_bits_Add64:Func:=f75
theorem at_bits_Add64:prog.funcs[F_bits_Add64]?=some f_bits_Add64:=func75
def F_scalar_lowered:Nat:=76
noncomputable def f_scalar_lowered:Func:=f76
theorem at_scalar_lowered:prog.funcs[F_scalar_lowered]?=some f_scalar_lowered:=func76
def F_scalar_from:Nat:=77
noncomputable def f_scalar_from:Func:=f77
theorem at_scalar_from:prog.funcs[F_scalar_from]?=some f_scalar_from:=func77
def F_edwards_load:Nat:=78
noncomputable def f_edwards_load:Func:=f78
theorem at_edwards_load:prog.funcs[F_edwards_load]?=some f_edwards_load:=func78
def F_edwards_small:Nat:=79
noncomputable def f_edwards_small:Func:=f79
theorem at_edwards_small:prog.funcs[F_edwards_small]?=some f_edwards_small:=func79
def F_edwards_fe_times:Nat:=80
noncomputable def f_edwards_fe_times:Func:=f80
theorem at_edwards_fe_times:prog.funcs[F_edwards_fe_times]?=some f_edwards_fe_times:=func80
def F_edwards_identity:Nat:=81
noncomputable def f_edwards_identity:Func:=f81
theorem at_edwards_identity:prog.funcs[F_edwards_identity]?=some f_edwards_identity:=func81
def F_edwards_point_plus:Nat:=82
noncomputable def f_edwards_point_plus:Func:=f82
theorem at_edwards_point_plus:prog.funcs[F_edwards_point_plus]?=some f_edwards_point_plus:=func82
def F_edwards_point_twice:Nat:=83
noncomputable def f_edwards_point_twice:Func:=f83
theorem at_edwards_point_twice:prog.funcs[F_edwards_point_twice]?=some f_edwards_point_twice:=func83
def F_edwards_point_xy:Nat:=84
noncomputable def f_edwards_point_xy:Func:=f84
theorem at_edwards_point_xy:prog.funcs[F_edwards_point_xy]?=some f_edwards_point_xy:=func84
def F_edwards_fe_bytes:Nat:=85
noncomputable def f_edwards_fe_bytes:Func:=f85
theorem at_edwards_fe_bytes:prog.funcs[F_edwards_fe_bytes]?=some f_edwards_fe_bytes:=func85
def F_edwards_fe_odd:Nat:=86
noncomputable def f_edwards_fe_odd:Func:=f86
theorem at_edwards_fe_odd:prog.funcs[F_edwards_fe_odd]?=some f_edwards_fe_odd:=func86
def F_rimeref02_Order:Nat:=87
noncomputable def f_rimeref02_Order:Func:=f87
theorem at_rimeref02_Order:prog.funcs[F_rimeref02_Order]?=some f_rimeref02_Order:=func87
def F_rimeref02_twice:Nat:=88
noncomputable def f_rimeref02_twice:Func:=f88
theorem at_rimeref02_twice:prog.funcs[F_rimeref02_twice]?=some f_rimeref02_twice:=func88
def F_rimeref02_below:Nat:=89
noncomputable def f_rimeref02_below:Func:=f89
theorem at_rimeref02_below:prog.funcs[F_rimeref02_below]?=some f_rimeref02_below:=func89
def F_rimeref02_minus:Nat:=90
noncomputable def f_rimeref02_minus:Func:=f90
theorem at_rimeref02_minus:prog.funcs[F_rimeref02_minus]?=some f_rimeref02_minus:=func90
def F_rimeref04_D:Nat:=91
noncomputable def f_rimeref04_D:Func:=f91
theorem at_rimeref04_D:prog.funcs[F_rimeref04_D]?=some f_rimeref04_D:=func91
def F_rimeref04_SqrtM1:Nat:=92
noncomputable def f_rimeref04_SqrtM1:Func:=f92
theorem at_rimeref04_SqrtM1:prog.funcs[F_rimeref04_SqrtM1]?=some f_rimeref04_SqrtM1:=func92
def F_rimeref04_Affine:Nat:=93
noncomputable def f_rimeref04_Affine:Func:=f93
theorem at_rimeref04_Affine:prog.funcs[F_rimeref04_Affine]?=some f_rimeref04_Affine:=func93
def F_rimeref04_From:Nat:=94
noncomputable def f_rimeref04_From:Func:=f94
theorem at_rimeref04_From:prog.funcs[F_rimeref04_From]?=some f_rimeref04_From:=func94
def F_rimeref04_XY:Nat:=95
noncomputable def f_rimeref04_XY:Func:=f95
theorem at_rimeref04_XY:prog.funcs[F_rimeref04_XY]?=some f_rimeref04_XY:=func95
def F_rimeref04_Bytes:Nat:=96
noncomputable def f_rimeref04_Bytes:Func:=f96
theorem at_rimeref04_Bytes:prog.funcs[F_rimeref04_Bytes]?=some f_rimeref04_Bytes:=func96
def F_rimeref04_None:Nat:=97
noncomputable def f_rimeref04_None:Func:=f97
theorem at_rimeref04_None:prog.funcs[F_rimeref04_None]?=some f_rimeref04_None:=func97
def F_rimeref04_Curve_Sum:Nat:=98
noncomputable def f_rimeref04_Curve_Sum:Func:=f98
theorem at_rimeref04_Curve_Sum:prog.funcs[F_rimeref04_Curve_Sum]?=some f_rimeref04_Curve_Sum:=func98
def F_rimeref04_Twice:Nat:=99
noncomputable def f_rimeref04_Twice:Func:=f99
theorem at_rimeref04_Twice:prog.funcs[F_rimeref04_Twice]?=some f_rimeref04_Twice:=func99
def F_scalar_times:Nat:=100
noncomputable def f_scalar_times:Func:=f100
theorem at_scalar_times:prog.funcs[F_scalar_times]?=some f_scalar_times:=func100
def F_rimeref02_Add:Nat:=101
noncomputable def f_rimeref02_Add:Func:=f101
theorem at_rimeref02_Add:prog.funcs[F_rimeref02_Add]?=some f_rimeref02_Add:=func101
def F_rimeref02_Mul:Nat:=102
noncomputable def f_rimeref02_Mul:Func:=f102
theorem at_rimeref02_Mul:prog.funcs[F_rimeref02_Mul]?=some f_rimeref02_Mul:=func102
def F_suite_GetElement:Nat:=103
noncomputable def f_suite_GetElement:Func:=f103
theorem at_suite_GetElement:prog.funcs[F_suite_GetElement]?=some f_suite_GetElement:=func103
def F_scalar_less:Nat:=104
noncomputable def f_scalar_less:Func:=f104
theorem at_scalar_less:prog.funcs[F_scalar_less]?=some f_scalar_less:=func104
def F_scalar_order:Nat:=105
noncomputable def f_scalar_order:Func:=f105
theorem at_scalar_order:prog.funcs[F_scalar_order]?=some f_scalar_order:=func105
def F_edwards_Identity:Nat:=106
noncomputable def f_edwards_Identity:Func:=f106
theorem at_edwards_Identity:prog.funcs[F_edwards_Identity]?=some f_edwards_Identity:=func106
def F_edwards_Mul:Nat:=107
noncomputable def f_edwards_Mul:Func:=f107
theorem at_edwards_Mul:prog.funcs[F_edwards_Mul]?=some f_edwards_Mul:=func107
def F_edwards_Add:Nat:=108
noncomputable def f_edwards_Add:Func:=f108
theorem at_edwards_Add:prog.funcs[F_edwards_Add]?=some f_edwards_Add:=func108
def F_edwards_wide_add:Nat:=109
noncomputable def f_edwards_wide_add:Func:=f109
theorem at_edwards_wide_add:prog.funcs[F_edwards_wide_add]?=some f_edwards_wide_add:=func109
def F_edwards_carried:Nat:=110
noncomputable def f_edwards_carried:Func:=f110
theorem at_edwards_carried:prog.funcs[F_edwards_carried]?=some f_edwards_carried:=func110
def F_edwards_curve:Nat:=111
noncomputable def f_edwards_curve:Func:=f111
theorem at_edwards_curve:prog.funcs[F_edwards_curve]?=some f_edwards_curve:=func111
def F_edwards_fe_plus:Nat:=112
noncomputable def f_edwards_fe_plus:Func:=f112
theorem at_edwards_fe_plus:prog.funcs[F_edwards_fe_plus]?=some f_edwards_fe_plus:=func112
def F_edwards_fe_minus:Nat:=113
noncomputable def f_edwards_fe_minus:Func:=f113
theorem at_edwards_fe_minus:prog.funcs[F_edwards_fe_minus]?=some f_edwards_fe_minus:=func113
def F_edwards_fe_square:Nat:=114
noncomputable def f_edwards_fe_square:Func:=f114
theorem at_edwards_fe_square:prog.funcs[F_edwards_fe_square]?=some f_edwards_fe_square:=func114
def F_edwards_fe_inverse:Nat:=115
noncomputable def f_edwards_fe_inverse:Func:=f115
theorem at_edwards_fe_inverse:prog.funcs[F_edwards_fe_inverse]?=some f_edwards_fe_inverse:=func115
def F_rimeref04_Small:Nat:=116
noncomputable def f_rimeref04_Small:Func:=f116
theorem at_rimeref04_Small:prog.funcs[F_rimeref04_Small]?=some f_rimeref04_Small:=func116
def F_rimeref04_Times:Nat:=117
noncomputable def f_rimeref04_Times:Func:=f117
theorem at_rimeref04_Times:prog.funcs[F_rimeref04_Times]?=some f_rimeref04_Times:=func117
def F_rimeref04_bits:Nat:=118
noncomputable def f_rimeref04_bits:Func:=f118
theorem at_rimeref04_bits:prog.funcs[F_rimeref04_bits]?=some f_rimeref04_bits:=func118
def F_rimeref04_carry:Nat:=119
noncomputable def f_rimeref04_carry:Func:=f119
theorem at_rimeref04_carry:prog.funcs[F_rimeref04_carry]?=some f_rimeref04_carry:=func119
def F_rimeref04_Invert:Nat:=120
noncomputable def f_rimeref04_Invert:Func:=f120
theorem at_rimeref04_Invert:prog.funcs[F_rimeref04_Invert]?=some f_rimeref04_Invert:=func120
def F_rimeref04_Minus:Nat:=121
noncomputable def f_rimeref04_Minus:Func:=f121
theorem at_rimeref04_Minus:prog.funcs[F_rimeref04_Minus]?=some f_rimeref04_Minus:=func121
def F_rimeref04_Plus:Nat:=122
noncomputable def f_rimeref04_Plus:Func:=f122
theorem at_rimeref04_Plus:prog.funcs[F_rimeref04_Plus]?=some f_rimeref04_Plus:=func122
def F_scalar_mont:Nat:=123
noncomputable def f_scalar_mont:Func:=f123
theorem at_scalar_mont:prog.funcs[F_scalar_mont]?=some f_scalar_mont:=func123
def F_scalar_radix:Nat:=124
noncomputable def f_scalar_radix:Func:=f124
theorem at_scalar_radix:prog.funcs[F_scalar_radix]?=some f_scalar_radix:=func124
def F_rimeref02_mul:Nat:=125
noncomputable def f_rimeref02_mul:Func:=f125
theorem at_rimeref02_mul:prog.funcs[F_rimeref02_mul]?=some f_rimeref02_mul:=func125
def F_suite_group:Nat:=126
noncomputable def f_suite_group:Func:=f126
theorem at_suite_group:prog.funcs[F_suite_group]?=some f_suite_group:=func126
def F_bits_Sub64:Nat:=127
noncomputable def f_bits_Sub64:Func:=f127
theorem at_bits_Sub64:prog.funcs[F_bits_Sub64]?=some f_bits_Sub64:=func127
def F_edwards_one:Nat:=128
noncomputable def f_edwards_one:Func:=f128
theorem at_edwards_one:prog.funcs[F_edwards_one]?=some f_edwards_one:=func128
def F_edwards_Mul_1:Nat:=129
noncomputable def f_edwards_Mul_1:Func:=f129
theorem at_edwards_Mul_1:prog.funcs[F_edwards_Mul_1]?=some f_edwards_Mul_1:=func129
def F_edwards_open:Nat:=130
noncomputable def f_edwards_open:Func:=f130
theorem at_edwards_open:prog.funcs[F_edwards_open]?=some f_edwards_open:=func130
def F_bits_Mul64:Nat:=131
noncomputable def f_bits_Mul64:Func:=f131
theorem at_bits_Mul64:prog.funcs[F_bits_Mul64]?=some f_bits_Mul64:=func131
def F_edwards_fe_chain:Nat:=132
noncomputable def f_edwards_fe_chain:Func:=f132
theorem at_edwards_fe_chain:prog.funcs[F_edwards_fe_chain]?=some f_edwards_fe_chain:=func132
def F_edwards_fe_squares:Nat:=133
noncomputable def f_edwards_fe_squares:Func:=f133
theorem at_edwards_fe_squares:prog.funcs[F_edwards_fe_squares]?=some f_edwards_fe_squares:=func133
def F_rimeref04_power:Nat:=134
noncomputable def f_rimeref04_power:Func:=f134
theorem at_rimeref04_power:prog.funcs[F_rimeref04_power]?=some f_rimeref04_power:=func134
def F_rimeref04_exponent:Nat:=135
noncomputable def f_rimeref04_exponent:Func:=f135
theorem at_rimeref04_exponent:prog.funcs[F_rimeref04_exponent]?=some f_rimeref04_exponent:=func135
def F_scalar_muladd:Nat:=136
noncomputable def f_scalar_muladd:Func:=f136
theorem at_scalar_muladd:prog.funcs[F_scalar_muladd]?=some f_scalar_muladd:=func136
def F_edwards_Check:Nat:=137
noncomputable def f_edwards_Check:Func:=f137
theorem at_edwards_Check:prog.funcs[F_edwards_Check]?=some f_edwards_Check:=func137
def F_edwards_IsPrime:Nat:=138
noncomputable def f_edwards_IsPrime:Func:=f138
theorem at_edwards_IsPrime:prog.funcs[F_edwards_IsPrime]?=some f_edwards_IsPrime:=func138
def F_edwards_root:Nat:=139
noncomputable def f_edwards_root:Func:=f139
theorem at_edwards_root:prog.funcs[F_edwards_root]?=some f_edwards_root:=func139
def F_edwards_order:Nat:=140
noncomputable def f_edwards_order:Func:=f140
theorem at_edwards_order:prog.funcs[F_edwards_order]?=some f_edwards_order:=func140
def F_edwards_point_isIdentity:Nat:=141
noncomputable def f_edwards_point_isIdentity:Func:=f141
theorem at_edwards_point_isIdentity:prog.funcs[F_edwards_point_isIdentity]?=some f_edwards_point_isIdentity:=func141
def F_edwards_fe_eighth:Nat:=142
noncomputable def f_edwards_fe_eighth:Func:=f142
theorem at_edwards_fe_eighth:prog.funcs[F_edwards_fe_eighth]?=some f_edwards_fe_eighth:=func142
def F_edwards_fe_same:Nat:=143
noncomputable def f_edwards_fe_same:Func:=f143
theorem at_edwards_fe_same:prog.funcs[F_edwards_fe_same]?=some f_edwards_fe_same:=func143
def F_edwards_rootOfMinus1:Nat:=144
noncomputable def f_edwards_rootOfMinus1:Func:=f144
theorem at_edwards_rootOfMinus1:prog.funcs[F_edwards_rootOfMinus1]?=some f_edwards_rootOfMinus1:=func144
end Go.Proofs.YtplaklpfeabhiaaGreat
