/-
  Texts of the claim: DTy.
-/
import Derived.Test.YtfpkegodflloiaaGreatAc
import Derived.KernelRfl
import Derived.Test.YtfpkegodflloiaaGreatProg
namespace Go.Proofs.YtfpkegodflloiaaGreat
open Go.Proofs.Tryz
open Go Go.AM
def tt:TT :=
 .node 99 (.node 52 (.node 23 (.node 12 (.node 6 (.node 3 (.node 2 (.leaf 1 ⟨.other,1,8,[.one (.unk)],false⟩)
 (.leaf 2 ⟨.int .i64,1,8,[.ints .i64 1 (fun _=>0)],false⟩))
 (.node 4 (.leaf 3 ⟨.int .i64,1,8,[.ints .i64 1 (fun _=>0)],false⟩)
 (.node 5 (.leaf 4 ⟨.bool,1,1,[.one (.bool false)],false⟩)
 (.leaf 5 ⟨.int .u8,1,1,[.ints .u8 1 (fun _=>0)],false⟩))))
 (.node 9 (.node 7 (.leaf 6 ⟨.int .u8,1,1,[.ints .u8 1 (fun _=>0)],false⟩)
 (.node 8 (.leaf 7 ⟨.struct [(0,2),(1,3),(2,4),(3,6)],4,24,[.ints .i64 2 (fun _=>0),.one (.bool false),.ints .u8 1 (fun _=>0)],false⟩)
 (.leaf 8 ⟨.struct [(0,2),(1,3),(2,4),(3,6)],4,24,[.ints .i64 2 (fun _=>0),.one (.bool false),.ints .u8 1 (fun _=>0)],false⟩)))
 (.node 10 (.leaf 9 ⟨.str,1,16,[.one (.str ⟨#[]⟩)],false⟩)
 (.node 11 (.leaf 10 ⟨.str,1,16,[.one (.str ⟨#[]⟩)],false⟩)
 (.leaf 11 ⟨.str,1,16,[.one (.str ⟨#[]⟩)],false⟩)))))
 (.node 17 (.node 14 (.node 13 (.leaf 12 ⟨.int .u64,1,8,[.ints .u64 1 (fun _=>0)],false⟩)
 (.leaf 13 ⟨.struct [(0,9),(1,12)],2,24,[.one (.str ⟨#[]⟩),.ints .u64 1 (fun _=>0)],false⟩))
 (.node 15 (.leaf 14 ⟨.struct [(0,9),(1,12)],2,24,[.one (.str ⟨#[]⟩),.ints .u64 1 (fun _=>0)],false⟩)
 (.node 16 (.leaf 15 ⟨.ptr,1,8,[.one (.nilp)],false⟩)
 (.leaf 16 ⟨.ptr,1,8,[.one (.nilp)],false⟩))))
 (.node 20 (.node 18 (.leaf 17 ⟨.ptr,1,8,[.one (.nilp)],false⟩)
 (.node 19 (.leaf 18 ⟨.struct [(0,17)],1,8,[.one (.nilp)],false⟩)
 (.leaf 19 ⟨.struct [(0,17)],1,8,[.one (.nilp)],false⟩)))
 (.node 21 (.leaf 20 ⟨.other,1,16,[.one (.raw .nilIface)],false⟩)
 (.node 22 (.leaf 21 ⟨.int .i32,1,4,[.ints .i32 1 (fun _=>0)],false⟩)
 (.leaf 22 ⟨.arr 32 5,32,32,[.ints .u8 32 (fun _=>0)],true⟩))))))
 (.node 38 (.node 29 (.node 25 (.node 24 (.leaf 23 ⟨.arr 32 5,32,32,[.ints .u8 32 (fun _=>0)],true⟩)
 (.leaf 24 ⟨.arr 32 5,32,32,[.ints .u8 32 (fun _=>0)],true⟩))
 (.node 26 (.leaf 25 ⟨.struct [(0,23),(32,23)],64,64,[.ints .u8 64 (fun _=>0)],true⟩)
 (.node 27 (.leaf 26 ⟨.struct [(0,23),(32,23)],64,64,[.ints .u8 64 (fun _=>0)],true⟩)
 (.leaf 27 ⟨.int .i64,1,8,[.ints .i64 1 (fun _=>0)],false⟩))))
 (.node 33 (.node 31 (.leaf 29 ⟨.other,1,8,[.one (.unk)],false⟩)
 (.node 32 (.leaf 31 ⟨.other,1,8,[.one (.unk)],false⟩)
 (.leaf 32 ⟨.arr 32 5,32,32,[.ints .u8 32 (fun _=>0)],true⟩)))
 (.node 34 (.leaf 33 ⟨.struct [(0,3),(1,32),(33,32)],65,72,[.ints .i64 1 (fun _=>0),.ints .u8 64 (fun _=>0)],true⟩)
 (.node 36 (.leaf 34 ⟨.struct [(0,3),(1,32),(33,32)],65,72,[.ints .i64 1 (fun _=>0),.ints .u8 64 (fun _=>0)],true⟩)
 (.leaf 36 ⟨.other,1,8,[.one (.unk)],false⟩)))))
 (.node 46 (.node 43 (.node 40 (.leaf 38 ⟨.other,1,8,[.one (.unk)],false⟩)
 (.node 42 (.leaf 40 ⟨.other,1,8,[.one (.unk)],false⟩)
 (.leaf 42 ⟨.other,1,8,[.one (.unk)],false⟩)))
 (.node 44 (.leaf 43 ⟨.other,1,8,[.one (.unk)],false⟩)
 (.node 45 (.leaf 44 ⟨.other,1,8,[.one (.unk)],false⟩)
 (.leaf 45 ⟨.other,1,8,[.one (.unk)],false⟩))))
 (.node 49 (.node 47 (.leaf 46 ⟨.other,1,8,[.one (.unk)],false⟩)
 (.node 48 (.leaf 47 ⟨.slice 5,1,24,[.one (.nils)],false⟩)
 (.leaf 48 ⟨.other,1,8,[.one (.unk)],false⟩)))
 (.node 50 (.leaf 49 ⟨.other,1,8,[.one (.unk)],false⟩)
 (.node 51 (.leaf 50 ⟨.other,1,8,[.one (.unk)],false⟩)
 (.leaf 51 ⟨.slice 47,1,24,[.one (.nils)],false⟩)))))))
 (.node 76 (.node 65 (.node 59 (.node 55 (.node 53 (.leaf 52 ⟨.other,1,8,[.one (.unk)],false⟩)
 (.leaf 53 ⟨.other,1,8,[.one (.unk)],false⟩))
 (.node 57 (.leaf 55 ⟨.other,1,8,[.one (.unk)],false⟩)
 (.node 58 (.leaf 57 ⟨.other,1,8,[.one (.unk)],false⟩)
 (.leaf 58 ⟨.other,1,8,[.one (.unk)],false⟩))))
 (.node 62 (.node 60 (.leaf 59 ⟨.other,1,8,[.one (.unk)],false⟩)
 (.node 61 (.leaf 60 ⟨.arr 64 5,64,64,[.ints .u8 64 (fun _=>0)],true⟩)
 (.leaf 61 ⟨.arr 64 5,64,64,[.ints .u8 64 (fun _=>0)],true⟩)))
 (.node 63 (.leaf 62 ⟨.other,1,8,[.one (.unk)],false⟩)
 (.node 64 (.leaf 63 ⟨.other,1,8,[.one (.unk)],false⟩)
 (.leaf 64 ⟨.other,1,8,[.one (.unk)],false⟩)))))
 (.node 70 (.node 67 (.node 66 (.leaf 65 ⟨.other,1,8,[.one (.unk)],false⟩)
 (.leaf 66 ⟨.int .u32,1,4,[.ints .u32 1 (fun _=>0)],false⟩))
 (.node 68 (.leaf 67 ⟨.arr 8 66,8,32,[.ints .u32 8 (fun _=>0)],true⟩)
 (.node 69 (.leaf 68 ⟨.arr 8 66,8,32,[.ints .u32 8 (fun _=>0)],true⟩)
 (.leaf 69 ⟨.other,1,8,[.one (.unk)],false⟩))))
 (.node 73 (.node 71 (.leaf 70 ⟨.other,1,8,[.one (.unk)],false⟩)
 (.node 72 (.leaf 71 ⟨.slice 34,1,24,[.one (.nils)],false⟩)
 (.leaf 72 ⟨.other,1,8,[.one (.unk)],false⟩)))
 (.node 74 (.leaf 73 ⟨.other,1,8,[.one (.unk)],false⟩)
 (.node 75 (.leaf 74 ⟨.other,1,8,[.one (.unk)],false⟩)
 (.leaf 75 ⟨.other,1,8,[.one (.unk)],false⟩))))))
 (.node 87 (.node 81 (.node 78 (.node 77 (.leaf 76 ⟨.arr 5 9,5,80,[.one (.str ⟨#[]⟩),.one (.str ⟨#[]⟩),.one (.str ⟨#[]⟩),.one (.str ⟨#[]⟩),.one (.str ⟨#[]⟩)],false⟩)
 (.leaf 77 ⟨.other,1,8,[.one (.unk)],false⟩))
 (.node 79 (.leaf 78 ⟨.other,1,8,[.one (.unk)],false⟩)
 (.node 80 (.leaf 79 ⟨.int .u64,1,8,[.ints .u64 1 (fun _=>0)],false⟩)
 (.leaf 80 ⟨.arr 4 79,4,32,[.ints .u64 4 (fun _=>0)],true⟩))))
 (.node 84 (.node 82 (.leaf 81 ⟨.arr 4 79,4,32,[.ints .u64 4 (fun _=>0)],true⟩)
 (.node 83 (.leaf 82 ⟨.other,1,8,[.one (.unk)],false⟩)
 (.leaf 83 ⟨.other,1,8,[.one (.unk)],false⟩)))
 (.node 85 (.leaf 84 ⟨.slice 66,1,24,[.one (.nils)],false⟩)
 (.node 86 (.leaf 85 ⟨.int .u64,1,8,[.ints .u64 1 (fun _=>0)],false⟩)
 (.leaf 86 ⟨.other,1,8,[.one (.unk)],false⟩)))))
 (.node 93 (.node 90 (.node 88 (.leaf 87 ⟨.other,1,8,[.one (.unk)],false⟩)
 (.node 89 (.leaf 88 ⟨.other,1,8,[.one (.unk)],false⟩)
 (.leaf 89 ⟨.other,1,8,[.one (.unk)],false⟩)))
 (.node 91 (.leaf 90 ⟨.arr 5 79,5,40,[.ints .u64 5 (fun _=>0)],true⟩)
 (.node 92 (.leaf 91 ⟨.arr 5 79,5,40,[.ints .u64 5 (fun _=>0)],true⟩)
 (.leaf 92 ⟨.struct [(0,91),(5,91),(10,91),(15,91)],20,160,[.ints .u64 20 (fun _=>0)],true⟩))))
 (.node 96 (.node 94 (.leaf 93 ⟨.struct [(0,91),(5,91),(10,91),(15,91)],20,160,[.ints .u64 20 (fun _=>0)],true⟩)
 (.node 95 (.leaf 94 ⟨.other,1,8,[.one (.unk)],false⟩)
 (.leaf 95 ⟨.other,1,8,[.one (.unk)],false⟩)))
 (.node 97 (.leaf 96 ⟨.other,1,8,[.one (.unk)],false⟩)
 (.node 98 (.leaf 97 ⟨.arr 10 2,10,80,[.ints .i64 10 (fun _=>0)],true⟩)
 (.leaf 98 ⟨.arr 10 2,10,80,[.ints .i64 10 (fun _=>0)],true⟩))))))))
 (.node 148 (.node 123 (.node 111 (.node 104 (.node 101 (.node 100 (.leaf 99 ⟨.struct [(0,98),(10,98),(20,98),(30,98)],40,320,[.ints .i64 40 (fun _=>0)],true⟩)
 (.leaf 100 ⟨.struct [(0,98),(10,98),(20,98),(30,98)],40,320,[.ints .i64 40 (fun _=>0)],true⟩))
 (.node 102 (.leaf 101 ⟨.struct [(0,98),(10,98),(20,100)],60,480,[.ints .i64 60 (fun _=>0)],true⟩)
 (.node 103 (.leaf 102 ⟨.struct [(0,98),(10,98),(20,100)],60,480,[.ints .i64 60 (fun _=>0)],true⟩)
 (.leaf 103 ⟨.other,1,8,[.one (.unk)],false⟩))))
 (.node 108 (.node 105 (.leaf 104 ⟨.other,1,8,[.one (.unk)],false⟩)
 (.node 107 (.leaf 105 ⟨.other,1,8,[.one (.unk)],false⟩)
 (.leaf 107 ⟨.other,1,8,[.one (.unk)],false⟩)))
 (.node 109 (.leaf 108 ⟨.ptr,1,8,[.one (.nilp)],false⟩)
 (.node 110 (.leaf 109 ⟨.other,1,8,[.one (.unk)],false⟩)
 (.leaf 110 ⟨.other,1,8,[.one (.unk)],false⟩)))))
 (.node 117 (.node 114 (.node 113 (.leaf 111 ⟨.other,1,8,[.one (.unk)],false⟩)
 (.leaf 113 ⟨.other,1,8,[.one (.unk)],false⟩))
 (.node 115 (.leaf 114 ⟨.other,1,8,[.one (.unk)],false⟩)
 (.node 116 (.leaf 115 ⟨.other,1,8,[.one (.unk)],false⟩)
 (.leaf 116 ⟨.other,1,8,[.one (.unk)],false⟩))))
 (.node 120 (.node 118 (.leaf 117 ⟨.other,1,8,[.one (.unk)],false⟩)
 (.node 119 (.leaf 118 ⟨.other,1,8,[.one (.unk)],false⟩)
 (.leaf 119 ⟨.arr 8 79,8,64,[.ints .u64 8 (fun _=>0)],true⟩)))
 (.node 121 (.leaf 120 ⟨.other,1,8,[.one (.unk)],false⟩)
 (.node 122 (.leaf 121 ⟨.other,1,8,[.one (.unk)],false⟩)
 (.leaf 122 ⟨.other,1,8,[.one (.unk)],false⟩))))))
 (.node 136 (.node 128 (.node 125 (.node 124 (.leaf 123 ⟨.other,1,8,[.one (.unk)],false⟩)
 (.leaf 124 ⟨.arr 32 5,32,32,[.ints .u8 32 (fun _=>0)],true⟩))
 (.node 126 (.leaf 125 ⟨.other,1,8,[.one (.unk)],false⟩)
 (.node 127 (.leaf 126 ⟨.other,1,8,[.one (.unk)],false⟩)
 (.leaf 127 ⟨.arr 16 93,320,2560,[.ints .u64 320 (fun _=>0)],true⟩))))
 (.node 132 (.node 130 (.leaf 128 ⟨.other,1,8,[.one (.unk)],false⟩)
 (.node 131 (.leaf 130 ⟨.other,1,8,[.one (.unk)],false⟩)
 (.leaf 131 ⟨.other,1,8,[.one (.unk)],false⟩)))
 (.node 133 (.leaf 132 ⟨.other,1,8,[.one (.unk)],false⟩)
 (.node 134 (.leaf 133 ⟨.other,1,8,[.one (.unk)],false⟩)
 (.leaf 134 ⟨.other,1,8,[.one (.unk)],false⟩)))))
 (.node 142 (.node 139 (.node 137 (.leaf 136 ⟨.other,1,8,[.one (.unk)],false⟩)
 (.node 138 (.leaf 137 ⟨.other,1,8,[.one (.unk)],false⟩)
 (.leaf 138 ⟨.arr 16 100,640,5120,[.ints .i64 640 (fun _=>0)],true⟩)))
 (.node 140 (.leaf 139 ⟨.other,1,8,[.one (.unk)],false⟩)
 (.node 141 (.leaf 140 ⟨.other,1,8,[.one (.unk)],false⟩)
 (.leaf 141 ⟨.other,1,8,[.one (.unk)],false⟩))))
 (.node 145 (.node 143 (.leaf 142 ⟨.other,1,8,[.one (.unk)],false⟩)
 (.node 144 (.leaf 143 ⟨.other,1,8,[.one (.unk)],false⟩)
 (.leaf 144 ⟨.arr 80 79,80,640,[.ints .u64 80 (fun _=>0)],true⟩)))
 (.node 146 (.leaf 145 ⟨.other,1,8,[.one (.unk)],false⟩)
 (.node 147 (.leaf 146 ⟨.ptr,1,8,[.one (.nilp)],false⟩)
 (.leaf 147 ⟨.struct [(0,119),(8,47),(9,79),(10,146)],11,104,[.ints .u64 8 (fun _=>0),.one (.nils),.ints .u64 1 (fun _=>0),.one (.nilp)],false⟩)))))))
 (.node 173 (.node 161 (.node 155 (.node 150 (.node 149 (.leaf 148 ⟨.struct [(0,119),(8,47),(9,79),(10,146)],11,104,[.ints .u64 8 (fun _=>0),.one (.nils),.ints .u64 1 (fun _=>0),.one (.nilp)],false⟩)
 (.leaf 149 ⟨.other,1,8,[.one (.unk)],false⟩))
 (.node 152 (.leaf 150 ⟨.other,1,8,[.one (.unk)],false⟩)
 (.node 153 (.leaf 152 ⟨.other,1,8,[.one (.unk)],false⟩)
 (.leaf 153 ⟨.other,1,8,[.one (.unk)],false⟩))))
 (.node 158 (.node 156 (.leaf 155 ⟨.other,1,8,[.one (.unk)],false⟩)
 (.node 157 (.leaf 156 ⟨.struct [(0,79),(1,79)],2,16,[.ints .u64 2 (fun _=>0)],true⟩)
 (.leaf 157 ⟨.struct [(0,79),(1,79)],2,16,[.ints .u64 2 (fun _=>0)],true⟩)))
 (.node 159 (.leaf 158 ⟨.arr 5 157,10,80,[.ints .u64 10 (fun _=>0)],true⟩)
 (.node 160 (.leaf 159 ⟨.other,1,8,[.one (.unk)],false⟩)
 (.leaf 160 ⟨.other,1,8,[.one (.unk)],false⟩)))))
 (.node 167 (.node 163 (.node 162 (.leaf 161 ⟨.other,1,8,[.one (.unk)],false⟩)
 (.leaf 162 ⟨.other,1,8,[.one (.unk)],false⟩))
 (.node 164 (.leaf 163 ⟨.other,1,8,[.one (.unk)],false⟩)
 (.node 166 (.leaf 164 ⟨.other,1,8,[.one (.unk)],false⟩)
 (.leaf 166 ⟨.other,1,8,[.one (.unk)],false⟩))))
 (.node 170 (.node 168 (.leaf 167 ⟨.arr 6 79,6,48,[.ints .u64 6 (fun _=>0)],true⟩)
 (.node 169 (.leaf 168 ⟨.other,1,8,[.one (.unk)],false⟩)
 (.leaf 169 ⟨.other,1,8,[.one (.unk)],false⟩)))
 (.node 171 (.leaf 170 ⟨.ptr,1,8,[.one (.nilp)],false⟩)
 (.node 172 (.leaf 171 ⟨.other,1,8,[.one (.unk)],false⟩)
 (.leaf 172 ⟨.other,1,8,[.one (.unk)],false⟩))))))
 (.node 186 (.node 180 (.node 176 (.node 174 (.leaf 173 ⟨.other,1,8,[.one (.unk)],false⟩)
 (.leaf 174 ⟨.other,1,8,[.one (.unk)],false⟩))
 (.node 177 (.leaf 176 ⟨.other,1,8,[.one (.unk)],false⟩)
 (.node 179 (.leaf 177 ⟨.other,1,8,[.one (.unk)],false⟩)
 (.leaf 179 ⟨.other,1,8,[.one (.unk)],false⟩))))
 (.node 183 (.node 181 (.leaf 180 ⟨.other,1,8,[.one (.unk)],false⟩)
 (.node 182 (.leaf 181 ⟨.other,1,8,[.one (.unk)],false⟩)
 (.leaf 182 ⟨.struct [(0,17),(1,17),(2,17),(3,9)],4,40,[.one (.nilp),.one (.nilp),.one (.nilp),.one (.str ⟨#[]⟩)],false⟩)))
 (.node 184 (.leaf 183 ⟨.struct [(0,17),(1,17),(2,17),(3,9)],4,40,[.one (.nilp),.one (.nilp),.one (.nilp),.one (.str ⟨#[]⟩)],false⟩)
 (.node 185 (.leaf 184 ⟨.arr 0 16,0,0,[],false⟩)
 (.leaf 185 ⟨.struct [(0,184)],0,0,[],false⟩)))))
 (.node 192 (.node 189 (.node 187 (.leaf 186 ⟨.struct [(0,184)],0,0,[],false⟩)
 (.node 188 (.leaf 187 ⟨.other,1,8,[.one (.unk)],false⟩)
 (.leaf 188 ⟨.int .u8,1,1,[.ints .u8 1 (fun _=>0)],false⟩)))
 (.node 190 (.leaf 189 ⟨.int .u8,1,1,[.ints .u8 1 (fun _=>0)],false⟩)
 (.node 191 (.leaf 190 ⟨.other,1,8,[.one (.unk)],false⟩)
 (.leaf 191 ⟨.ptr,1,8,[.one (.nilp)],false⟩))))
 (.node 195 (.node 193 (.leaf 192 ⟨.int .i32,1,4,[.ints .i32 1 (fun _=>0)],false⟩)
 (.node 194 (.leaf 193 ⟨.int .i32,1,4,[.ints .i32 1 (fun _=>0)],false⟩)
 (.leaf 194 ⟨.struct [(0,12),(1,12),(2,66),(3,188),(4,5),(5,5),(6,189),(7,190),(8,191),(9,192),(10,193)],11,48,[.ints .u64 2 (fun _=>0),.ints .u32 1 (fun _=>0),.ints .u8 4 (fun _=>0),.one (.unk),.one (.nilp),.ints .i32 2 (fun _=>0)],false⟩)))
 (.node 196 (.leaf 195 ⟨.struct [(0,12),(1,12),(2,66),(3,188),(4,5),(5,5),(6,189),(7,190),(8,191),(9,192),(10,193)],11,48,[.ints .u64 2 (fun _=>0),.ints .u32 1 (fun _=>0),.ints .u8 4 (fun _=>0),.one (.unk),.one (.nilp),.ints .i32 2 (fun _=>0)],false⟩)
 (.node 197 (.leaf 196 ⟨.other,1,8,[.one (.unk)],false⟩)
 (.leaf 197 ⟨.other,1,8,[.one (.nilp)],false⟩))))))))
theorem tt_ok:tt.chk prog=true:=by kernel_rfl
theorem mix:prog.follows .mixedOrders=true:=by kernel_rfl
def F_rimelaw09_FrostNonces:Nat:=3
noncomputable def f_rimelaw09_FrostNonces:Func:=f3
theorem at_rimelaw09_FrostNonces:prog.funcs[F_rimelaw09_FrostNonces]?=some f_rimelaw09_FrostNonces:=func3
def F_frost_Nonce:Nat:=4
noncomputable def f_frost_Nonce:Func:=f4
theorem at_frost_Nonce:prog.funcs[F_frost_Nonce]?=some f_frost_Nonce:=func4
def F_rimeref09_Nonce:Nat:=5
noncomputable def f_rimeref09_Nonce:Func:=f5
theorem at_rimeref09_Nonce:prog.funcs[F_rimeref09_Nonce]?=some f_rimeref09_Nonce:=func5
def F_frost_Commit:Nat:=6
noncomputable def f_frost_Commit:Func:=f6
theorem at_frost_Commit:prog.funcs[F_frost_Commit]?=some f_frost_Commit:=func6
def F_rimeref09_Commit:Nat:=7
noncomputable def f_rimeref09_Commit:Func:=f7
theorem at_rimeref09_Commit:prog.funcs[F_rimeref09_Commit]?=some f_rimeref09_Commit:=func7
def F_frost_Pair:Nat:=8
noncomputable def f_frost_Pair:Func:=f8
theorem at_frost_Pair:prog.funcs[F_frost_Pair]?=some f_frost_Pair:=func8
def F_rimeref09_Pair:Nat:=9
noncomputable def f_rimeref09_Pair:Func:=f9
theorem at_rimeref09_Pair:prog.funcs[F_rimeref09_Pair]?=some f_rimeref09_Pair:=func9
def F_rimelaw09_num:Nat:=10
noncomputable def f_rimelaw09_num:Func:=f10
theorem at_rimelaw09_num:prog.funcs[F_rimelaw09_num]?=some f_rimelaw09_num:=func10
def F_rimelaw09_alive:Nat:=11
noncomputable def f_rimelaw09_alive:Func:=f11
theorem at_rimelaw09_alive:prog.funcs[F_rimelaw09_alive]?=some f_rimelaw09_alive:=func11
def F_suite_H3:Nat:=12
noncomputable def f_suite_H3:Func:=f12
theorem at_suite_H3:prog.funcs[F_suite_H3]?=some f_suite_H3:=func12
def F_suite_PutScalar:Nat:=13
noncomputable def f_suite_PutScalar:Func:=f13
theorem at_suite_PutScalar:prog.funcs[F_suite_PutScalar]?=some f_suite_PutScalar:=func13
def F_rimeref09_Canon:Nat:=14
noncomputable def f_rimeref09_Canon:Func:=f14
theorem at_rimeref09_Canon:prog.funcs[F_rimeref09_Canon]?=some f_rimeref09_Canon:=func14
def F_rimeref06_H3:Nat:=15
noncomputable def f_rimeref06_H3:Func:=f15
theorem at_rimeref06_H3:prog.funcs[F_rimeref06_H3]?=some f_rimeref06_H3:=func15
def F_rimeref02_IsZero:Nat:=16
noncomputable def f_rimeref02_IsZero:Func:=f16
theorem at_rimeref02_IsZero:prog.funcs[F_rimeref02_IsZero]?=some f_rimeref02_IsZero:=func16
def F_frost_isID:Nat:=17
noncomputable def f_frost_isID:Func:=f17
theorem at_frost_isID:prog.funcs[F_frost_isID]?=some f_frost_isID:=func17
def F_rimeref09_isID:Nat:=18
noncomputable def f_rimeref09_isID:Func:=f18
theorem at_rimeref09_isID:prog.funcs[F_rimeref09_isID]?=some f_rimeref09_isID:=func18
def F_suite_Exp:Nat:=19
noncomputable def f_suite_Exp:Func:=f19
theorem at_suite_Exp:prog.funcs[F_suite_Exp]?=some f_suite_Exp:=func19
def F_rimeref06_Exp:Nat:=20
noncomputable def f_rimeref06_Exp:Func:=f20
theorem at_rimeref06_Exp:prog.funcs[F_rimeref06_Exp]?=some f_rimeref06_Exp:=func20
def F_frost_CheckList:Nat:=21
noncomputable def f_frost_CheckList:Func:=f21
theorem at_frost_CheckList:prog.funcs[F_frost_CheckList]?=some f_frost_CheckList:=func21
def F_suite_number:Nat:=22
noncomputable def f_suite_number:Func:=f22
theorem at_suite_number:prog.funcs[F_suite_number]?=some f_suite_number:=func22
def F_suite_hashed:Nat:=23
noncomputable def f_suite_hashed:Func:=f23
theorem at_suite_hashed:prog.funcs[F_suite_hashed]?=some f_suite_hashed:=func23
def F_scalar_Add:Nat:=24
noncomputable def f_scalar_Add:Func:=f24
theorem at_scalar_Add:prog.funcs[F_scalar_Add]?=some f_scalar_Add:=func24
def F_rimeref02_Add:Nat:=25
noncomputable def f_rimeref02_Add:Func:=f25
theorem at_rimeref02_Add:prog.funcs[F_rimeref02_Add]?=some f_rimeref02_Add:=func25
def F_rimeref06_number:Nat:=26
noncomputable def f_rimeref06_number:Func:=f26
theorem at_rimeref06_number:prog.funcs[F_rimeref06_number]?=some f_rimeref06_number:=func26
def F_rimeref06_joined:Nat:=27
noncomputable def f_rimeref06_joined:Func:=f27
theorem at_rimeref06_joined:prog.funcs[F_rimeref06_joined]?=some f_rimeref06_joined:=func27
def F_rimeref02_Value:Nat:=28
noncomputable def f_rimeref02_Value:Func:=f28
theorem at_rimeref02_Value:prog.funcs[F_rimeref02_Value]?=some f_rimeref02_Value:=func28
def F_scalar_IsZero:Nat:=29
noncomputable def f_scalar_IsZero:Func:=f29
theorem at_scalar_IsZero:prog.funcs[F_scalar_IsZero]?=some f_scalar_IsZero:=func29
def F_edwards_MulBase:Nat:=30
noncomputable def f_edwards_MulBase:Func:=f30
theorem at_edwards_MulBase:prog.funcs[F_edwards_MulBase]?=some f_edwards_MulBase:=func30
def F_rimeref02_Reduce:Nat:=31
noncomputable def f_rimeref02_Reduce:Func:=f31
theorem at_rimeref02_Reduce:prog.funcs[F_rimeref02_Reduce]?=some f_rimeref02_Reduce:=func31
def F_rimeref04_MulBase:Nat:=32
noncomputable def f_rimeref04_MulBase:Func:=f32
theorem at_rimeref04_MulBase:prog.funcs[F_rimeref04_MulBase]?=some f_rimeref04_MulBase:=func32
def F_scalar_Reduce:Nat:=37
noncomputable def f_scalar_Reduce:Func:=f37
theorem at_scalar_Reduce:prog.funcs[F_scalar_Reduce]?=some f_scalar_Reduce:=func37
def F_sha512_Join:Nat:=38
noncomputable def f_sha512_Join:Func:=f38
theorem at_sha512_Join:prog.funcs[F_sha512_Join]?=some f_sha512_Join:=func38
def F_scalar_back:Nat:=39
noncomputable def f_scalar_back:Func:=f39
theorem at_scalar_back:prog.funcs[F_scalar_back]?=some f_scalar_back:=func39
def F_scalar_plus:Nat:=40
noncomputable def f_scalar_plus:Func:=f40
theorem at_scalar_plus:prog.funcs[F_scalar_plus]?=some f_scalar_plus:=func40
def F_scalar_value:Nat:=41
noncomputable def f_scalar_value:Func:=f41
theorem at_scalar_value:prog.funcs[F_scalar_value]?=some f_scalar_value:=func41
def F_rimeref02_Back:Nat:=42
noncomputable def f_rimeref02_Back:Func:=f42
theorem at_rimeref02_Back:prog.funcs[F_rimeref02_Back]?=some f_rimeref02_Back:=func42
def F_rimeref02_mod:Nat:=43
noncomputable def f_rimeref02_mod:Func:=f43
theorem at_rimeref02_mod:prog.funcs[F_rimeref02_mod]?=some f_rimeref02_mod:=func43
def F_rimeref03_Sum:Nat:=44
noncomputable def f_rimeref03_Sum:Func:=f44
theorem at_rimeref03_Sum:prog.funcs[F_rimeref03_Sum]?=some f_rimeref03_Sum:=func44
def F_rimeref02_digits:Nat:=45
noncomputable def f_rimeref02_digits:Func:=f45
theorem at_rimeref02_digits:prog.funcs[F_rimeref02_digits]?=some f_rimeref02_digits:=func45
def F_edwards_base:Nat:=46
noncomputable def f_edwards_base:Func:=f46
theorem at_edwards_base:prog.funcs[F_edwards_base]?=some f_edwards_base:=func46
def F_edwards_point_times:Nat:=47
noncomputable def f_edwards_point_times:Func:=f47
theorem at_edwards_point_times:prog.funcs[F_edwards_point_times]?=some f_edwards_point_times:=func47
def F_edwards_point_form:Nat:=48
noncomputable def f_edwards_point_form:Func:=f48
theorem at_edwards_point_form:prog.funcs[F_edwards_point_form]?=some f_edwards_point_form:=func48
def F_rimeref04_Made:Nat:=49
noncomputable def f_rimeref04_Made:Func:=f49
theorem at_rimeref04_Made:prog.funcs[F_rimeref04_Made]?=some f_rimeref04_Made:=func49
def F_rimeref04_Form:Nat:=50
noncomputable def f_rimeref04_Form:Func:=f50
theorem at_rimeref04_Form:prog.funcs[F_rimeref04_Form]?=some f_rimeref04_Form:=func50
def F_rimeref04_Curve_Many:Nat:=51
noncomputable def f_rimeref04_Curve_Many:Func:=f51
theorem at_rimeref04_Curve_Many:prog.funcs[F_rimeref04_Curve_Many]?=some f_rimeref04_Curve_Many:=func51
def F_scalar_times:Nat:=53
noncomputable def f_scalar_times:Func:=f53
theorem at_scalar_times:prog.funcs[F_scalar_times]?=some f_scalar_times:=func53
def F_scalar_from:Nat:=54
noncomputable def f_scalar_from:Func:=f54
theorem at_scalar_from:prog.funcs[F_scalar_from]?=some f_scalar_from:=func54
def F_sha512_New:Nat:=55
noncomputable def f_sha512_New:Func:=f55
theorem at_sha512_New:prog.funcs[F_sha512_New]?=some f_sha512_New:=func55
def F_sha512_Hasher_Write:Nat:=56
noncomputable def f_sha512_Hasher_Write:Func:=f56
theorem at_sha512_Hasher_Write:prog.funcs[F_sha512_Hasher_Write]?=some f_sha512_Hasher_Write:=func56
def F_sha512_Hasher_Sum:Nat:=57
noncomputable def f_sha512_Hasher_Sum:Func:=f57
theorem at_sha512_Hasher_Sum:prog.funcs[F_sha512_Hasher_Sum]?=some f_sha512_Hasher_Sum:=func57
def F_bits_Add64:Nat:=58
noncomputable def f_bits_Add64:Func:=f58
theorem at_bits_Add64:prog.funcs[F_bits_Add64]?=some f_bits_Add64:=func58
def F_scalar_lowered:Nat:=59
noncomputable def f_scalar_lowered:Func:=f59
theorem at_scalar_lowered:prog.funcs[F_scalar_lowered]?=some f_scalar_lowered:=func59
def F_rimeref02_Order:Nat:=60
noncomputable def f_rimeref02_Order:Func:=f60
theorem at_rimeref02_Order:prog.funcs[F_rimeref02_Order]?=some f_rimeref02_Order:=func60
def F_rimeref02_twice:Nat:=61
noncomputable def f_rimeref02_twice:Func:=f61
theorem at_rimeref02_twice:prog.funcs[F_rimeref02_twice]?=some f_rimeref02_twice:=func61
def F_rimeref02_below:Nat:=62
noncomputable def f_rimeref02_below:Func:=f62
theorem at_rimeref02_below:prog.funcs[F_rimeref02_below]?=some f_rimeref02_below:=func62
def F_rimeref02_minus:Nat:=63
noncomputable def f_rimeref02_minus:Func:=f63
theorem at_rimeref02_minus:prog.funcs[F_rimeref02_minus]?=some f_rimeref02_minus:=func63
def F_rimeref03_Words:Nat:=64
noncomputable def f_rimeref03_Words:Func:=f64
theorem at_rimeref03_Words:prog.funcs[F_rimeref03_Words]?=some f_rimeref03_Words:=func64
def F_rimeref03_block:Nat:=65
noncomputable def f_rimeref03_block:Func:=f65
theorem at_rimeref03_block:prog.funcs[F_rimeref03_block]?=some f_rimeref03_block:=func65
def F_rimeref03_Finish:Nat:=66
noncomputable def f_rimeref03_Finish:Func:=f66
theorem at_rimeref03_Finish:prog.funcs[F_rimeref03_Finish]?=some f_rimeref03_Finish:=func66
def F_edwards_load:Nat:=67
noncomputable def f_edwards_load:Func:=f67
theorem at_edwards_load:prog.funcs[F_edwards_load]?=some f_edwards_load:=func67
def F_edwards_small:Nat:=68
noncomputable def f_edwards_small:Func:=f68
theorem at_edwards_small:prog.funcs[F_edwards_small]?=some f_edwards_small:=func68
def F_edwards_fe_times:Nat:=69
noncomputable def f_edwards_fe_times:Func:=f69
theorem at_edwards_fe_times:prog.funcs[F_edwards_fe_times]?=some f_edwards_fe_times:=func69
def F_edwards_identity:Nat:=70
noncomputable def f_edwards_identity:Func:=f70
theorem at_edwards_identity:prog.funcs[F_edwards_identity]?=some f_edwards_identity:=func70
def F_edwards_point_plus:Nat:=71
noncomputable def f_edwards_point_plus:Func:=f71
theorem at_edwards_point_plus:prog.funcs[F_edwards_point_plus]?=some f_edwards_point_plus:=func71
def F_edwards_point_twice:Nat:=72
noncomputable def f_edwards_point_twice:Func:=f72
theorem at_edwards_point_twice:prog.funcs[F_edwards_point_twice]?=some f_edwards_point_twice:=func72
def F_edwards_point_xy:Nat:=73
noncomputable def f_edwards_point_xy:Func:=f73
theorem at_edwards_point_xy:prog.funcs[F_edwards_point_xy]?=some f_edwards_point_xy:=func73
def F_edwards_fe_bytes:Nat:=74
noncomputable def f_edwards_fe_bytes:Func:=f74
theorem at_edwards_fe_bytes:prog.funcs[F_edwards_fe_bytes]?=some f_edwards_fe_bytes:=func74
def F_edwards_fe_odd:Nat:=75
noncomputable def f_edwards_fe_odd:Func:=f75
theorem at_edwards_fe_odd:prog.funcs[F_edwards_fe_odd]?=some f_edwards_fe_odd:=func75
def F_rimeref04_D:Nat:=76
noncomputable def f_rimeref04_D:Func:=f76
theorem at_rimeref04_D:prog.funcs[F_rimeref04_D]?=some f_rimeref04_D:=func76
def F_rimeref04_SqrtM1:Nat:=77
noncomputable def f_rimeref04_SqrtM1:Func:=f77
theorem at_rimeref04_SqrtM1:prog.funcs[F_rimeref04_SqrtM1]?=some f_rimeref04_SqrtM1:=func77
def F_rimeref04_Affine:Nat:=78
noncomputable def f_rimeref04_Affine:Func:=f78
theorem at_rimeref04_Affine:prog.funcs[F_rimeref04_Affine]?=some f_rimeref04_Affine:=func78
def F_rimeref04_From:Nat:=79
noncomputable def f_rimeref04_From:Func:=f79
theorem at_rimeref04_From:prog.funcs[F_rimeref04_From]?=some f_rimeref04_From:=func79
def F_rimeref04_XY:Nat:=80
noncomputable def f_rimeref04_XY:Func:=f80
theorem at_rimeref04_XY:prog.funcs[F_rimeref04_XY]?=some f_rimeref04_XY:=func80
def F_rimeref04_Bytes:Nat:=81
noncomputable def f_rimeref04_Bytes:Func:=f81
theorem at_rimeref04_Bytes:prog.funcs[F_rimeref04_Bytes]?=some f_rimeref04_Bytes:=func81
def F_rimeref04_None:Nat:=82
noncomputable def f_rimeref04_None:Func:=f82
theorem at_rimeref04_None:prog.funcs[F_rimeref04_None]?=some f_rimeref04_None:=func82
def F_rimeref04_Curve_Sum:Nat:=83
noncomputable def f_rimeref04_Curve_Sum:Func:=f83
theorem at_rimeref04_Curve_Sum:prog.funcs[F_rimeref04_Curve_Sum]?=some f_rimeref04_Curve_Sum:=func83
def F_rimeref04_Twice:Nat:=84
noncomputable def f_rimeref04_Twice:Func:=f84
theorem at_rimeref04_Twice:prog.funcs[F_rimeref04_Twice]?=some f_rimeref04_Twice:=func84
def F_scalar_mont:Nat:=86
noncomputable def f_scalar_mont:Func:=f86
theorem at_scalar_mont:prog.funcs[F_scalar_mont]?=some f_scalar_mont:=func86
def F_scalar_radix:Nat:=87
noncomputable def f_scalar_radix:Func:=f87
theorem at_scalar_radix:prog.funcs[F_scalar_radix]?=some f_scalar_radix:=func87
def F_sha512_Constants:Nat:=88
noncomputable def f_sha512_Constants:Func:=f88
theorem at_sha512_Constants:prog.funcs[F_sha512_Constants]?=some f_sha512_Constants:=func88
def F_sha512_begin:Nat:=89
noncomputable def f_sha512_begin:Func:=f89
theorem at_sha512_begin:prog.funcs[F_sha512_begin]?=some f_sha512_begin:=func89
def F_sha512_Hasher_made:Nat:=90
noncomputable def f_sha512_Hasher_made:Func:=f90
theorem at_sha512_Hasher_made:prog.funcs[F_sha512_Hasher_made]?=some f_sha512_Hasher_made:=func90
def F_sha512_block:Nat:=91
noncomputable def f_sha512_block:Func:=f91
theorem at_sha512_block:prog.funcs[F_sha512_block]?=some f_sha512_block:=func91
def F_sha512_pad:Nat:=92
noncomputable def f_sha512_pad:Func:=f92
theorem at_sha512_pad:prog.funcs[F_sha512_pad]?=some f_sha512_pad:=func92
def F_scalar_less:Nat:=93
noncomputable def f_scalar_less:Func:=f93
theorem at_scalar_less:prog.funcs[F_scalar_less]?=some f_scalar_less:=func93
def F_scalar_order:Nat:=94
noncomputable def f_scalar_order:Func:=f94
theorem at_scalar_order:prog.funcs[F_scalar_order]?=some f_scalar_order:=func94
def F_rimeref03_Constants:Nat:=95
noncomputable def f_rimeref03_Constants:Func:=f95
theorem at_rimeref03_Constants:prog.funcs[F_rimeref03_Constants]?=some f_rimeref03_Constants:=func95
def F_rimeref03_ror:Nat:=96
noncomputable def f_rimeref03_ror:Func:=f96
theorem at_rimeref03_ror:prog.funcs[F_rimeref03_ror]?=some f_rimeref03_ror:=func96
def F_rimeref03_Pad:Nat:=97
noncomputable def f_rimeref03_Pad:Func:=f97
theorem at_rimeref03_Pad:prog.funcs[F_rimeref03_Pad]?=some f_rimeref03_Pad:=func97
def F_edwards_wide_add:Nat:=98
noncomputable def f_edwards_wide_add:Func:=f98
theorem at_edwards_wide_add:prog.funcs[F_edwards_wide_add]?=some f_edwards_wide_add:=func98
def F_edwards_carried:Nat:=99
noncomputable def f_edwards_carried:Func:=f99
theorem at_edwards_carried:prog.funcs[F_edwards_carried]?=some f_edwards_carried:=func99
def F_edwards_curve:Nat:=100
noncomputable def f_edwards_curve:Func:=f100
theorem at_edwards_curve:prog.funcs[F_edwards_curve]?=some f_edwards_curve:=func100
def F_edwards_fe_plus:Nat:=101
noncomputable def f_edwards_fe_plus:Func:=f101
theorem at_edwards_fe_plus:prog.funcs[F_edwards_fe_plus]?=some f_edwards_fe_plus:=func101
def F_edwards_fe_minus:Nat:=102
noncomputable def f_edwards_fe_minus:Func:=f102
theorem at_edwards_fe_minus:prog.funcs[F_edwards_fe_minus]?=some f_edwards_fe_minus:=func102
def F_edwards_fe_square:Nat:=103
noncomputable def f_edwards_fe_square:Func:=f103
theorem at_edwards_fe_square:prog.funcs[F_edwards_fe_square]?=some f_edwards_fe_square:=func103
def F_edwards_fe_inverse:Nat:=104
noncomputable def f_edwards_fe_inverse:Func:=f104
theorem at_edwards_fe_inverse:prog.funcs[F_edwards_fe_inverse]?=some f_edwards_fe_inverse:=func104
def F_rimeref04_Small:Nat:=105
noncomputable def f_rimeref04_Small:Func:=f105
theorem at_rimeref04_Small:prog.funcs[F_rimeref04_Small]?=some f_rimeref04_Small:=func105
def F_rimeref04_Times:Nat:=106
noncomputable def f_rimeref04_Times:Func:=f106
theorem at_rimeref04_Times:prog.funcs[F_rimeref04_Times]?=some f_rimeref04_Times:=func106
def F_rimeref04_bits:Nat:=107
noncomputable def f_rimeref04_bits:Func:=f107
theorem at_rimeref04_bits:prog.funcs[F_rimeref04_bits]?=some f_rimeref04_bits:=func107
def F_rimeref04_carry:Nat:=108
noncomputable def f_rimeref04_carry:Func:=f108
theorem at_rimeref04_carry:prog.funcs[F_rimeref04_carry]?=some f_rimeref04_carry:=func108
def F_rimeref04_Invert:Nat:=109
noncomputable def f_rimeref04_Invert:Func:=f109
theorem at_rimeref04_Invert:prog.funcs[F_rimeref04_Invert]?=some f_rimeref04_Invert:=func109
def F_rimeref04_Minus:Nat:=110
noncomputable def f_rimeref04_Minus:Func:=f110
theorem at_rimeref04_Minus:prog.funcs[F_rimeref04_Minus]?=some f_rimeref04_Minus:=func110
def F_rimeref04_Plus:Nat:=111
noncomputable def f_rimeref04_Plus:Func:=f111
theorem at_rimeref04_Plus:prog.funcs[F_rimeref04_Plus]?=some f_rimeref04_Plus:=func111
def F_edwards_Check:Nat:=112
noncomputable def f_edwards_Check:Func:=f112
theorem at_edwards_Check:prog.funcs[F_edwards_Check]?=some f_edwards_Check:=func112
def F_edwards_Identity:Nat:=113
noncomputable def f_edwards_Identity:Func:=f113
theorem at_edwards_Identity:prog.funcs[F_edwards_Identity]?=some f_edwards_Identity:=func113
def F_edwards_IsPrime:Nat:=114
noncomputable def f_edwards_IsPrime:Func:=f114
theorem at_edwards_IsPrime:prog.funcs[F_edwards_IsPrime]?=some f_edwards_IsPrime:=func114
def F_scalar_muladd:Nat:=115
noncomputable def f_scalar_muladd:Func:=f115
theorem at_scalar_muladd:prog.funcs[F_scalar_muladd]?=some f_scalar_muladd:=func115
def F_sha512_ror:Nat:=116
noncomputable def f_sha512_ror:Func:=f116
theorem at_sha512_ror:prog.funcs[F_sha512_ror]?=some f_sha512_ror:=func116
def F_bits_Sub64:Nat:=117
noncomputable def f_bits_Sub64:Func:=f117
theorem at_bits_Sub64:prog.funcs[F_bits_Sub64]?=some f_bits_Sub64:=func117
def F_bits_Mul64:Nat:=118
noncomputable def f_bits_Mul64:Func:=f118
theorem at_bits_Mul64:prog.funcs[F_bits_Mul64]?=some f_bits_Mul64:=func118
def F_edwards_fe_chain:Nat:=119
noncomputable def f_edwards_fe_chain:Func:=f119
theorem at_edwards_fe_chain:prog.funcs[F_edwards_fe_chain]?=some f_edwards_fe_chain:=func119
def F_edwards_fe_squares:Nat:=120
noncomputable def f_edwards_fe_squares:Func:=f120
theorem at_edwards_fe_squares:prog.funcs[F_edwards_fe_squares]?=some f_edwards_fe_squares:=func120
def F_rimeref04_power:Nat:=121
noncomputable def f_rimeref04_power:Func:=f121
theorem at_rimeref04_power:prog.funcs[F_rimeref04_power]?=some f_rimeref04_power:=func121
def F_rimeref04_exponent:Nat:=122
noncomputable def f_rimeref04_exponent:Func:=f122
theorem at_rimeref04_exponent:prog.funcs[F_rimeref04_exponent]?=some f_rimeref04_exponent:=func122
def F_edwards_open:Nat:=123
noncomputable def f_edwards_open:Func:=f123
theorem at_edwards_open:prog.funcs[F_edwards_open]?=some f_edwards_open:=func123
def F_edwards_order:Nat:=124
noncomputable def f_edwards_order:Func:=f124
theorem at_edwards_order:prog.funcs[F_edwards_order]?=some f_edwards_order:=func124
def F_edwards_point_isIdentity:Nat:=125
noncomputable def f_edwards_point_isIdentity:Func:=f125
theorem at_edwards_point_isIdentity:prog.funcs[F_edwards_point_isIdentity]?=some f_edwards_point_isIdentity:=func125
def F_bits_RotateLeft64:Nat:=126
noncomputable def f_bits_RotateLeft64:Func:=f126
theorem at_bits_RotateLeft64:prog.funcs[F_bits_RotateLeft64]?=some f_bits_RotateLeft64:=func126
def F_edwards_root:Nat:=127
noncomputable def f_edwards_root:Func:=f127
theorem at_edwards_root:prog.funcs[F_edwards_root]?=some f_edwards_root:=func127
def F_edwards_fe_same:Nat:=128
noncomputable def f_edwards_fe_same:Func:=f128
theorem at_edwards_fe_same:prog.funcs[F_edwards_fe_same]?=some f_edwards_fe_same:=func128
def F_edwards_fe_eighth:Nat:=129
noncomputable def f_edwards_fe_eighth:Func:=f129
theorem at_edwards_fe_eighth:prog.funcs[F_edwards_fe_eighth]?=some f_edwards_fe_eighth:=func129
def F_edwards_rootOfMinus1:Nat:=130
noncomputable def f_edwards_rootOfMinus1:Func:=f130
theorem at_edwards_rootOfMinus1:prog.funcs[F_edwards_rootOfMinus1]?=some f_edwards_rootOfMinus1:=func130
end Go.Proofs.YtfpkegodflloiaaGreat
