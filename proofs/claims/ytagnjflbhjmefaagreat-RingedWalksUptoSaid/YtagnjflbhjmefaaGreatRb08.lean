/- Part 8 of the texts of this proof, put together by a program and made short.
Conditions: none; what each theorem asks stands in its own hypotheses. -/
import Derived.Test.YtagnjflbhjmefaaGreatRb05
import Derived.Test.YtagnjflbhjmefaaGreatProg
import Derived.Ground.NamesProg
import Derived.Shelf.Slices.In.SortAlone
import Derived.KernelRfl
import Derived.RangeFuncIn
import Derived.Sort.Grow
import Derived.Laws.Cover3
import Derived.RecoverIn
import Derived.ProofKit
import Derived.OpenShut
import Derived.CallsIn
import Derived.RangeFuncLeaves
import Derived.OrdersIn
import Derived.TacticsIn
import Derived.ChangeKeysEq
import Derived.Laws.AppendOwn
import Derived.Laws.OwnMore
import Derived.Laws.MakeOwn
import Derived.Laws.Rows
import Derived.Laws.Cells
import Derived.Laws.Tables
import Derived.Laws.CopyRow
import Derived.Laws.Strings
import Derived.Laws.IdiomStrings
import Derived.Laws.BytesArg
set_option linter.unusedSimpArgs false
set_option linter.unusedVariables false
set_option linter.unnecessarySimpa false
set_option maxHeartbeats 40000000
namespace Go.Proofs.YtagnjflbhjmefaaGreat
open Go.Gar
def T : Tr:=(.n (.n (.n (.n (.n (.n (.n (.n (.n .l 1 ⟨.fn,1,8,false,[.nilFunc],false⟩ .l) 2 ⟨.int .i64,1,8,false,[.int .i64 0],false⟩ .l) 3 ⟨.int .i64,1,8,false,[.int .i64 0],false⟩ (.n .l 4 ⟨.bool,1,1,false,[.bool false],false⟩ .l)) 5 ⟨.int .u8,1,1,false,[.int .u8 0],false⟩ (.n (.n (.n .l 6 ⟨.int .u8,1,1,false,[.int .u8 0],false⟩ .l) 7 ⟨.st [(0,2),(1,3),(2,4),(3,6)],4,24,true,[.int .i64 0,.int .i64 0,.bool false,.int .u8 0],true⟩ .l) 8 ⟨.st [(0,2),(1,3),(2,4),(3,6)],4,24,true,[.int .i64 0,.int .i64 0,.bool false,.int .u8 0],false⟩ (.n .l 9 ⟨.str,1,16,false,[.string ⟨#[]⟩],false⟩ .l))) 10 ⟨.str,1,16,false,[.string ⟨#[]⟩],false⟩ (.n (.n (.n (.n .l 11 ⟨.str,1,16,false,[.string ⟨#[]⟩],false⟩ .l) 12 ⟨.int .u64,1,8,false,[.int .u64 0],false⟩ .l) 13 ⟨.st [(0,9),(1,12)],2,24,true,[.string ⟨#[]⟩,.int .u64 0],false⟩ (.n .l 14 ⟨.st [(0,9),(1,12)],2,24,true,[.string ⟨#[]⟩,.int .u64 0],false⟩ .l)) 15 ⟨.ptr 329,1,8,false,[.pointer none],false⟩ (.n (.n .l 16 ⟨.ptr 332,1,8,false,[.pointer none],false⟩ .l) 17 ⟨.ptr 340,1,8,false,[.pointer none],false⟩ (.n .l 18 ⟨.st [(0,17)],1,8,true,[.pointer none],false⟩ .l)))) 19 ⟨.st [(0,17)],1,8,true,[.pointer none],false⟩ (.n (.n (.n (.n (.n .l 20 ⟨.ifc,1,16,false,[.nilIface],false⟩ .l) 21 ⟨.int .i32,1,4,false,[.int .i32 0],false⟩ .l) 22 ⟨.sl 67,1,24,false,[.slice none 0 0],false⟩ (.n .l 23 ⟨.sl 3,1,24,false,[.slice none 0 0],false⟩ .l)) 24 ⟨.sl 72,1,24,false,[.slice none 0 0],false⟩ (.n (.n (.n .l 25 ⟨.st [(0,24),(1,3)],2,32,true,[.slice none 0 0,.int .i64 0],false⟩ .l) 26 ⟨.st [(0,24),(1,3)],2,32,true,[.slice none 0 0,.int .i64 0],false⟩ .l) 27 ⟨.st [(0,22),(1,23),(2,23),(3,26)],5,104,true,[.slice none 0 0,.slice none 0 0,.slice none 0 0,.slice none 0 0,.int .i64 0],false⟩ (.n .l 28 ⟨.st [(0,22),(1,23),(2,23),(3,26)],5,104,true,[.slice none 0 0,.slice none 0 0,.slice none 0 0,.slice none 0 0,.int .i64 0],false⟩ .l))) 29 ⟨.fn,1,8,false,[.nilFunc],false⟩ (.n (.n (.n (.n .l 30 ⟨.fn,1,8,false,[.nilFunc],false⟩ .l) 32 ⟨.fn,1,8,false,[.nilFunc],false⟩ .l) 34 ⟨.fn,1,8,false,[.nilFunc],false⟩ (.n .l 35 ⟨.fn,1,8,false,[.nilFunc],false⟩ .l)) 36 ⟨.fn,1,8,false,[.nilFunc],false⟩ (.n (.n .l 37 ⟨.fn,1,8,false,[.nilFunc],false⟩ .l) 38 ⟨.sl 49,1,24,false,[.slice none 0 0],false⟩ (.n .l 39 ⟨.fn,1,8,false,[.nilFunc],false⟩ .l))))) 40 ⟨.int .i64,1,8,false,[.int .i64 0],false⟩ (.n (.n (.n (.n (.n (.n .l 42 ⟨.fn,1,8,false,[.nilFunc],false⟩ .l) 43 ⟨.fn,1,8,false,[.nilFunc],false⟩ .l) 44 ⟨.fn,1,8,false,[.nilFunc],false⟩ (.n .l 45 ⟨.sl 5,1,24,false,[.slice none 0 0],false⟩ .l)) 46 ⟨.st [(0,9),(1,3),(2,3),(3,4)],4,40,true,[.string ⟨#[]⟩,.int .i64 0,.int .i64 0,.bool false],true⟩ (.n (.n (.n .l 47 ⟨.st [(0,9),(1,3),(2,3),(3,4)],4,40,true,[.string ⟨#[]⟩,.int .i64 0,.int .i64 0,.bool false],true⟩ .l) 48 ⟨.st [(0,5),(1,3),(2,3),(3,3),(4,45),(5,47)],9,96,true,[.int .u8 0,.int .i64 0,.int .i64 0,.int .i64 0,.slice none 0 0,.string ⟨#[]⟩,.int .i64 0,.int .i64 0,.bool false],false⟩ .l) 49 ⟨.st [(0,5),(1,3),(2,3),(3,3),(4,45),(5,47)],9,96,true,[.int .u8 0,.int .i64 0,.int .i64 0,.int .i64 0,.slice none 0 0,.string ⟨#[]⟩,.int .i64 0,.int .i64 0,.bool false],false⟩ (.n .l 50 ⟨.fn,1,8,false,[.nilFunc],false⟩ .l))) 51 ⟨.fn,1,8,false,[.nilFunc],false⟩ (.n (.n (.n (.n .l 52 ⟨.arr 16 3,16,128,true,[.int .i64 0,.int .i64 0,.int .i64 0,.int .i64 0,.int .i64 0,.int .i64 0,.int .i64 0,.int .i64 0,.int .i64 0,.int .i64 0,.int .i64 0,.int .i64 0,.int .i64 0,.int .i64 0,.int .i64 0,.int .i64 0],true⟩ .l) 53 ⟨.st [(0,3),(1,23),(2,23),(3,3),(4,52)],20,192,true,[.int .i64 0,.slice none 0 0,.slice none 0 0,.int .i64 0,.int .i64 0,.int .i64 0,.int .i64 0,.int .i64 0,.int .i64 0,.int .i64 0,.int .i64 0,.int .i64 0,.int .i64 0,.int .i64 0,.int .i64 0,.int .i64 0,.int .i64 0,.int .i64 0,.int .i64 0,.int .i64 0],false⟩ .l) 54 ⟨.st [(0,3),(1,23),(2,23),(3,3),(4,52)],20,192,true,[.int .i64 0,.slice none 0 0,.slice none 0 0,.int .i64 0,.int .i64 0,.int .i64 0,.int .i64 0,.int .i64 0,.int .i64 0,.int .i64 0,.int .i64 0,.int .i64 0,.int .i64 0,.int .i64 0,.int .i64 0,.int .i64 0,.int .i64 0,.int .i64 0,.int .i64 0,.int .i64 0],false⟩ (.n .l 55 ⟨.sl 176,1,24,false,[.slice none 0 0],false⟩ .l)) 56 ⟨.st [(0,3),(1,3),(2,55)],3,40,true,[.int .i64 0,.int .i64 0,.slice none 0 0],false⟩ (.n (.n .l 57 ⟨.st [(0,3),(1,3),(2,55)],3,40,true,[.int .i64 0,.int .i64 0,.slice none 0 0],false⟩ .l) 58 ⟨.sl 87,1,24,false,[.slice none 0 0],false⟩ (.n .l 59 ⟨.st [(0,5),(1,3)],2,16,true,[.int .u8 0,.int .i64 0],true⟩ .l)))) 60 ⟨.st [(0,5),(1,3)],2,16,true,[.int .u8 0,.int .i64 0],true⟩ (.n (.n (.n (.n (.n .l 61 ⟨.st [(0,3),(1,3),(2,3),(3,4),(4,4),(5,40)],6,40,true,[.int .i64 0,.int .i64 0,.int .i64 0,.bool false,.bool false,.int .i64 0],true⟩ .l) 62 ⟨.st [(0,3),(1,3),(2,3),(3,4),(4,4),(5,40)],6,40,true,[.int .i64 0,.int .i64 0,.int .i64 0,.bool false,.bool false,.int .i64 0],true⟩ .l) 63 ⟨.st [(0,5),(1,5),(2,62),(8,47),(12,3),(13,23),(14,40)],15,128,true,[.int .u8 0,.int .u8 0,.int .i64 0,.int .i64 0,.int .i64 0,.bool false,.bool false,.int .i64 0,.string ⟨#[]⟩,.int .i64 0,.int .i64 0,.bool false,.int .i64 0,.slice none 0 0,.int .i64 0],false⟩ (.n .l 64 ⟨.st [(0,5),(1,5),(2,62),(8,47),(12,3),(13,23),(14,40)],15,128,true,[.int .u8 0,.int .u8 0,.int .i64 0,.int .i64 0,.int .i64 0,.bool false,.bool false,.int .i64 0,.string ⟨#[]⟩,.int .i64 0,.int .i64 0,.bool false,.int .i64 0,.slice none 0 0,.int .i64 0],false⟩ .l)) 65 ⟨.sl 47,1,24,false,[.slice none 0 0],false⟩ (.n (.n .l 66 ⟨.st [(0,54),(20,3),(21,57),(24,58),(25,60),(27,64),(42,64),(57,64),(72,3),(73,9),(74,65),(75,3)],76,720,true,.int .i64 0 :: .slice none 0 0 :: .slice none 0 0 :: .int .i64 0 :: .int .i64 0 :: .int .i64 0 :: .int .i64 0 :: .int .i64 0 :: .int .i64 0 :: .int .i64 0 :: .int .i64 0 :: .int .i64 0 :: .int .i64 0 :: .int .i64 0 :: .int .i64 0 :: .int .i64 0 :: .int .i64 0 :: .int .i64 0 :: .int .i64 0 :: .int .i64 0 :: .int .i64 0 :: .int .i64 0 :: .int .i64 0 :: .slice none 0 0 :: .slice none 0 0 :: .int .u8 0 :: .int .i64 0 :: .int .u8 0 :: .int .u8 0 :: .int .i64 0 :: .int .i64 0 :: .int .i64 0 :: .bool false :: .bool false :: .int .i64 0 :: .string ⟨#[]⟩ :: .int .i64 0 :: .int .i64 0 :: .bool false :: .int .i64 0 :: .slice none 0 0 :: .int .i64 0 :: .int .u8 0 :: .int .u8 0 :: .int .i64 0 :: .int .i64 0 :: .int .i64 0 :: .bool false :: .bool false :: .int .i64 0 :: .string ⟨#[]⟩ :: .int .i64 0 :: .int .i64 0 :: .bool false :: .int .i64 0 :: .slice none 0 0 :: .int .i64 0 :: .int .u8 0 :: .int .u8 0 :: .int .i64 0 :: .int .i64 0 :: .int .i64 0 :: .bool false :: .bool false :: .int .i64 0 :: .string ⟨#[]⟩ :: .int .i64 0 :: .int .i64 0 :: .bool false :: .int .i64 0 :: .slice none 0 0 :: .int .i64 0 :: .int .i64 0 :: .string ⟨#[]⟩ :: .slice none 0 0 :: .int .i64 0 :: [],false⟩ .l) 67 ⟨.st [(0,54),(20,3),(21,57),(24,58),(25,60),(27,64),(42,64),(57,64),(72,3),(73,9),(74,65),(75,3)],76,720,true,.int .i64 0 :: .slice none 0 0 :: .slice none 0 0 :: .int .i64 0 :: .int .i64 0 :: .int .i64 0 :: .int .i64 0 :: .int .i64 0 :: .int .i64 0 :: .int .i64 0 :: .int .i64 0 :: .int .i64 0 :: .int .i64 0 :: .int .i64 0 :: .int .i64 0 :: .int .i64 0 :: .int .i64 0 :: .int .i64 0 :: .int .i64 0 :: .int .i64 0 :: .int .i64 0 :: .int .i64 0 :: .int .i64 0 :: .slice none 0 0 :: .slice none 0 0 :: .int .u8 0 :: .int .i64 0 :: .int .u8 0 :: .int .u8 0 :: .int .i64 0 :: .int .i64 0 :: .int .i64 0 :: .bool false :: .bool false :: .int .i64 0 :: .string ⟨#[]⟩ :: .int .i64 0 :: .int .i64 0 :: .bool false :: .int .i64 0 :: .slice none 0 0 :: .int .i64 0 :: .int .u8 0 :: .int .u8 0 :: .int .i64 0 :: .int .i64 0 :: .int .i64 0 :: .bool false :: .bool false :: .int .i64 0 :: .string ⟨#[]⟩ :: .int .i64 0 :: .int .i64 0 :: .bool false :: .int .i64 0 :: .slice none 0 0 :: .int .i64 0 :: .int .u8 0 :: .int .u8 0 :: .int .i64 0 :: .int .i64 0 :: .int .i64 0 :: .bool false :: .bool false :: .int .i64 0 :: .string ⟨#[]⟩ :: .int .i64 0 :: .int .i64 0 :: .bool false :: .int .i64 0 :: .slice none 0 0 :: .int .i64 0 :: .int .i64 0 :: .string ⟨#[]⟩ :: .slice none 0 0 :: .int .i64 0 :: [],false⟩ (.n .l 69 ⟨.fn,1,8,false,[.nilFunc],false⟩ .l))) 70 ⟨.fn,1,8,false,[.nilFunc],false⟩ (.n (.n (.n (.n .l 71 ⟨.st [(0,3),(1,45),(2,4)],3,40,true,[.int .i64 0,.slice none 0 0,.bool false],false⟩ .l) 72 ⟨.st [(0,3),(1,45),(2,4)],3,40,true,[.int .i64 0,.slice none 0 0,.bool false],false⟩ .l) 73 ⟨.fn,1,8,false,[.nilFunc],false⟩ (.n .l 74 ⟨.fn,1,8,false,[.nilFunc],false⟩ .l)) 75 ⟨.fn,1,8,false,[.nilFunc],false⟩ (.n (.n .l 76 ⟨.fn,1,8,false,[.nilFunc],false⟩ .l) 77 ⟨.fn,1,8,false,[.nilFunc],false⟩ (.n .l 78 ⟨.fn,1,8,false,[.nilFunc],false⟩ .l)))))) 79 ⟨.fn,1,8,false,[.nilFunc],false⟩ (.n (.n (.n (.n (.n (.n (.n .l 80 ⟨.fn,1,8,false,[.nilFunc],false⟩ .l) 81 ⟨.fn,1,8,false,[.nilFunc],false⟩ .l) 82 ⟨.st [(0,5),(1,3),(2,3),(3,3),(4,3),(5,4),(6,4),(7,3),(8,3),(9,23),(10,47),(14,40)],15,136,true,[.int .u8 0,.int .i64 0,.int .i64 0,.int .i64 0,.int .i64 0,.bool false,.bool false,.int .i64 0,.int .i64 0,.slice none 0 0,.string ⟨#[]⟩,.int .i64 0,.int .i64 0,.bool false,.int .i64 0],false⟩ (.n .l 83 ⟨.st [(0,5),(1,3),(2,3),(3,3),(4,3),(5,4),(6,4),(7,3),(8,3),(9,23),(10,47),(14,40)],15,136,true,[.int .u8 0,.int .i64 0,.int .i64 0,.int .i64 0,.int .i64 0,.bool false,.bool false,.int .i64 0,.int .i64 0,.slice none 0 0,.string ⟨#[]⟩,.int .i64 0,.int .i64 0,.bool false,.int .i64 0],false⟩ .l)) 84 ⟨.fn,1,8,false,[.nilFunc],false⟩ (.n (.n (.n .l 85 ⟨.fn,1,8,false,[.nilFunc],false⟩ .l) 86 ⟨.st [(0,3),(1,3),(2,83)],17,152,true,[.int .i64 0,.int .i64 0,.int .u8 0,.int .i64 0,.int .i64 0,.int .i64 0,.int .i64 0,.bool false,.bool false,.int .i64 0,.int .i64 0,.slice none 0 0,.string ⟨#[]⟩,.int .i64 0,.int .i64 0,.bool false,.int .i64 0],false⟩ .l) 87 ⟨.st [(0,3),(1,3),(2,83)],17,152,true,[.int .i64 0,.int .i64 0,.int .u8 0,.int .i64 0,.int .i64 0,.int .i64 0,.int .i64 0,.bool false,.bool false,.int .i64 0,.int .i64 0,.slice none 0 0,.string ⟨#[]⟩,.int .i64 0,.int .i64 0,.bool false,.int .i64 0],false⟩ (.n .l 88 ⟨.fn,1,8,false,[.nilFunc],false⟩ .l))) 89 ⟨.fn,1,8,false,[.nilFunc],false⟩ (.n (.n (.n (.n .l 91 ⟨.fn,1,8,false,[.nilFunc],false⟩ .l) 92 ⟨.fn,1,8,false,[.nilFunc],false⟩ .l) 93 ⟨.fn,1,8,false,[.nilFunc],false⟩ (.n .l 94 ⟨.fn,1,8,false,[.nilFunc],false⟩ .l)) 95 ⟨.fn,1,8,false,[.nilFunc],false⟩ (.n (.n .l 96 ⟨.fn,1,8,false,[.nilFunc],false⟩ .l) 98 ⟨.fn,1,8,false,[.nilFunc],false⟩ (.n .l 99 ⟨.fn,1,8,false,[.nilFunc],false⟩ .l)))) 100 ⟨.fn,1,8,false,[.nilFunc],false⟩ (.n (.n (.n (.n (.n .l 101 ⟨.fn,1,8,false,[.nilFunc],false⟩ .l) 102 ⟨.fn,1,8,false,[.nilFunc],false⟩ .l) 103 ⟨.fn,1,8,false,[.nilFunc],false⟩ (.n .l 104 ⟨.fn,1,8,false,[.nilFunc],false⟩ .l)) 105 ⟨.fn,1,8,false,[.nilFunc],false⟩ (.n (.n (.n .l 106 ⟨.fn,1,8,false,[.nilFunc],false⟩ .l) 107 ⟨.fn,1,8,false,[.nilFunc],false⟩ .l) 108 ⟨.fn,1,8,false,[.nilFunc],false⟩ (.n .l 109 ⟨.ptr 67,1,8,false,[.pointer none],false⟩ .l))) 110 ⟨.fn,1,8,false,[.nilFunc],false⟩ (.n (.n (.n (.n .l 111 ⟨.fn,1,8,false,[.nilFunc],false⟩ .l) 112 ⟨.fn,1,8,false,[.nilFunc],false⟩ .l) 113 ⟨.fn,1,8,false,[.nilFunc],false⟩ (.n .l 114 ⟨.fn,1,8,false,[.nilFunc],false⟩ .l)) 115 ⟨.fn,1,8,false,[.nilFunc],false⟩ (.n (.n .l 116 ⟨.fn,1,8,false,[.nilFunc],false⟩ .l) 117 ⟨.fn,1,8,false,[.nilFunc],false⟩ (.n .l 119 ⟨.fn,1,8,false,[.nilFunc],false⟩ .l))))) 120 ⟨.fn,1,8,false,[.nilFunc],false⟩ (.n (.n (.n (.n (.n (.n .l 121 ⟨.fn,1,8,false,[.nilFunc],false⟩ .l) 123 ⟨.fn,1,8,false,[.nilFunc],false⟩ .l) 125 ⟨.fn,1,8,false,[.nilFunc],false⟩ (.n .l 126 ⟨.fn,1,8,false,[.nilFunc],false⟩ .l)) 127 ⟨.fn,1,8,false,[.nilFunc],false⟩ (.n (.n (.n .l 128 ⟨.fn,1,8,false,[.nilFunc],false⟩ .l) 129 ⟨.fn,1,8,false,[.nilFunc],false⟩ .l) 130 ⟨.fn,1,8,false,[.nilFunc],false⟩ (.n .l 131 ⟨.fn,1,8,false,[.nilFunc],false⟩ .l))) 132 ⟨.fn,1,8,false,[.nilFunc],false⟩ (.n (.n (.n (.n .l 133 ⟨.fn,1,8,false,[.nilFunc],false⟩ .l) 134 ⟨.fn,1,8,false,[.nilFunc],false⟩ .l) 135 ⟨.fn,1,8,false,[.nilFunc],false⟩ (.n .l 136 ⟨.fn,1,8,false,[.nilFunc],false⟩ .l)) 137 ⟨.fn,1,8,false,[.nilFunc],false⟩ (.n (.n .l 138 ⟨.fn,1,8,false,[.nilFunc],false⟩ .l) 139 ⟨.fn,1,8,false,[.nilFunc],false⟩ (.n .l 140 ⟨.fn,1,8,false,[.nilFunc],false⟩ .l)))) 141 ⟨.fn,1,8,false,[.nilFunc],false⟩ (.n (.n (.n (.n (.n .l 142 ⟨.fn,1,8,false,[.nilFunc],false⟩ .l) 143 ⟨.fn,1,8,false,[.nilFunc],false⟩ .l) 144 ⟨.int .u32,1,4,false,[.int .u32 0],false⟩ (.n .l 145 ⟨.int .u64,1,8,false,[.int .u64 0],false⟩ .l)) 146 ⟨.fn,1,8,false,[.nilFunc],false⟩ (.n (.n .l 147 ⟨.fn,1,8,false,[.nilFunc],false⟩ .l) 148 ⟨.st [(0,40)],1,8,true,[.int .i64 0],true⟩ (.n .l 149 ⟨.st [(0,40)],1,8,true,[.int .i64 0],true⟩ .l))) 150 ⟨.st [(0,45)],1,24,true,[.slice none 0 0],false⟩ (.n (.n (.n (.n .l 151 ⟨.st [(0,45)],1,24,true,[.slice none 0 0],false⟩ .l) 152 ⟨.fn,1,8,false,[.nilFunc],false⟩ .l) 153 ⟨.ptr 83,1,8,false,[.pointer none],false⟩ (.n .l 155 ⟨.mp 5 1,1,8,false,[.map none],false⟩ .l)) 156 ⟨.fn,1,8,false,[.nilFunc],false⟩ (.n (.n .l 157 ⟨.ptr 151,1,8,false,[.pointer none],false⟩ .l) 159 ⟨.fn,1,8,false,[.nilFunc],false⟩ (.n .l 161 ⟨.fn,1,8,false,[.nilFunc],false⟩ .l))))))) 162 ⟨.fn,1,8,false,[.nilFunc],false⟩ (.n (.n (.n (.n (.n (.n (.n (.n .l 164 ⟨.fn,1,8,false,[.nilFunc],false⟩ .l) 166 ⟨.fn,1,8,false,[.nilFunc],false⟩ .l) 167 ⟨.fn,1,8,false,[.nilFunc],false⟩ (.n .l 169 ⟨.fn,1,8,false,[.nilFunc],false⟩ .l)) 170 ⟨.fn,1,8,false,[.nilFunc],false⟩ (.n (.n (.n .l 171 ⟨.fn,1,8,false,[.nilFunc],false⟩ .l) 173 ⟨.fn,1,8,false,[.nilFunc],false⟩ .l) 174 ⟨.fn,1,8,false,[.nilFunc],false⟩ (.n .l 175 ⟨.st [(0,3),(1,83),(16,5),(17,3),(18,3),(19,3)],20,176,true,[.int .i64 0,.int .u8 0,.int .i64 0,.int .i64 0,.int .i64 0,.int .i64 0,.bool false,.bool false,.int .i64 0,.int .i64 0,.slice none 0 0,.string ⟨#[]⟩,.int .i64 0,.int .i64 0,.bool false,.int .i64 0,.int .u8 0,.int .i64 0,.int .i64 0,.int .i64 0],false⟩ .l))) 176 ⟨.st [(0,3),(1,83),(16,5),(17,3),(18,3),(19,3)],20,176,true,[.int .i64 0,.int .u8 0,.int .i64 0,.int .i64 0,.int .i64 0,.int .i64 0,.bool false,.bool false,.int .i64 0,.int .i64 0,.slice none 0 0,.string ⟨#[]⟩,.int .i64 0,.int .i64 0,.bool false,.int .i64 0,.int .u8 0,.int .i64 0,.int .i64 0,.int .i64 0],false⟩ (.n (.n (.n (.n .l 177 ⟨.fn,1,8,false,[.nilFunc],false⟩ .l) 179 ⟨.fn,1,8,false,[.nilFunc],false⟩ .l) 180 ⟨.fn,1,8,false,[.nilFunc],false⟩ (.n .l 181 ⟨.fn,1,8,false,[.nilFunc],false⟩ .l)) 182 ⟨.sl 30,1,24,false,[.slice none 0 0],false⟩ (.n (.n .l 183 ⟨.fn,1,8,false,[.nilFunc],false⟩ .l) 184 ⟨.fn,1,8,false,[.nilFunc],false⟩ (.n .l 185 ⟨.fn,1,8,false,[.nilFunc],false⟩ .l)))) 186 ⟨.fn,1,8,false,[.nilFunc],false⟩ (.n (.n (.n (.n (.n .l 187 ⟨.fn,1,8,false,[.nilFunc],false⟩ .l) 188 ⟨.fn,1,8,false,[.nilFunc],false⟩ .l) 189 ⟨.fn,1,8,false,[.nilFunc],false⟩ (.n .l 190 ⟨.fn,1,8,false,[.nilFunc],false⟩ .l)) 191 ⟨.fn,1,8,false,[.nilFunc],false⟩ (.n (.n (.n .l 192 ⟨.fn,1,8,false,[.nilFunc],false⟩ .l) 193 ⟨.fn,1,8,false,[.nilFunc],false⟩ .l) 194 ⟨.fn,1,8,false,[.nilFunc],false⟩ (.n .l 195 ⟨.fn,1,8,false,[.nilFunc],false⟩ .l))) 196 ⟨.fn,1,8,false,[.nilFunc],false⟩ (.n (.n (.n (.n .l 197 ⟨.fn,1,8,false,[.nilFunc],false⟩ .l) 198 ⟨.fn,1,8,false,[.nilFunc],false⟩ .l) 199 ⟨.fn,1,8,false,[.nilFunc],false⟩ (.n .l 200 ⟨.fn,1,8,false,[.nilFunc],false⟩ .l)) 202 ⟨.fn,1,8,false,[.nilFunc],false⟩ (.n (.n .l 203 ⟨.fn,1,8,false,[.nilFunc],false⟩ .l) 204 ⟨.fn,1,8,false,[.nilFunc],false⟩ (.n .l 205 ⟨.fn,1,8,false,[.nilFunc],false⟩ .l))))) 206 ⟨.fn,1,8,false,[.nilFunc],false⟩ (.n (.n (.n (.n (.n (.n .l 207 ⟨.fn,1,8,false,[.nilFunc],false⟩ .l) 208 ⟨.fn,1,8,false,[.nilFunc],false⟩ .l) 210 ⟨.fn,1,8,false,[.nilFunc],false⟩ (.n .l 212 ⟨.fn,1,8,false,[.nilFunc],false⟩ .l)) 214 ⟨.fn,1,8,false,[.nilFunc],false⟩ (.n (.n (.n .l 216 ⟨.fn,1,8,false,[.nilFunc],false⟩ .l) 217 ⟨.fn,1,8,false,[.nilFunc],false⟩ .l) 218 ⟨.fn,1,8,false,[.nilFunc],false⟩ (.n .l 219 ⟨.fn,1,8,false,[.nilFunc],false⟩ .l))) 220 ⟨.fn,1,8,false,[.nilFunc],false⟩ (.n (.n (.n (.n .l 221 ⟨.fn,1,8,false,[.nilFunc],false⟩ .l) 222 ⟨.fn,1,8,false,[.nilFunc],false⟩ .l) 223 ⟨.sl 262,1,24,false,[.slice none 0 0],false⟩ (.n .l 225 ⟨.fn,1,8,false,[.nilFunc],false⟩ .l)) 226 ⟨.fn,1,8,false,[.nilFunc],false⟩ (.n (.n .l 228 ⟨.fn,1,8,false,[.nilFunc],false⟩ .l) 229 ⟨.fn,1,8,false,[.nilFunc],false⟩ (.n .l 231 ⟨.fn,1,8,false,[.nilFunc],false⟩ .l)))) 232 ⟨.fn,1,8,false,[.nilFunc],false⟩ (.n (.n (.n (.n (.n .l 234 ⟨.fn,1,8,false,[.nilFunc],false⟩ .l) 235 ⟨.fn,1,8,false,[.nilFunc],false⟩ .l) 236 ⟨.fn,1,8,false,[.nilFunc],false⟩ (.n .l 237 ⟨.fn,1,8,false,[.nilFunc],false⟩ .l)) 238 ⟨.fn,1,8,false,[.nilFunc],false⟩ (.n (.n .l 239 ⟨.fn,1,8,false,[.nilFunc],false⟩ .l) 240 ⟨.int .i64,1,8,false,[.int .i64 0],false⟩ (.n .l 242 ⟨.fn,1,8,false,[.nilFunc],false⟩ .l))) 243 ⟨.fn,1,8,false,[.nilFunc],false⟩ (.n (.n (.n (.n .l 244 ⟨.fn,1,8,false,[.nilFunc],false⟩ .l) 245 ⟨.fn,1,8,false,[.nilFunc],false⟩ .l) 246 ⟨.fn,1,8,false,[.nilFunc],false⟩ (.n .l 247 ⟨.fn,1,8,false,[.nilFunc],false⟩ .l)) 248 ⟨.int .u64,1,8,false,[.int .u64 0],false⟩ (.n (.n .l 249 ⟨.fn,1,8,false,[.nilFunc],false⟩ .l) 250 ⟨.fn,1,8,false,[.nilFunc],false⟩ (.n .l 251 ⟨.fn,1,8,false,[.nilFunc],false⟩ .l)))))) 252 ⟨.sl 83,1,24,false,[.slice none 0 0],false⟩ (.n (.n (.n (.n (.n (.n (.n .l 254 ⟨.fn,1,8,false,[.nilFunc],false⟩ .l) 255 ⟨.fn,1,8,false,[.nilFunc],false⟩ .l) 257 ⟨.fn,1,8,false,[.nilFunc],false⟩ (.n .l 258 ⟨.fn,1,8,false,[.nilFunc],false⟩ .l)) 260 ⟨.fn,1,8,false,[.nilFunc],false⟩ (.n (.n (.n .l 261 ⟨.st [(0,83),(15,5)],16,144,true,[.int .u8 0,.int .i64 0,.int .i64 0,.int .i64 0,.int .i64 0,.bool false,.bool false,.int .i64 0,.int .i64 0,.slice none 0 0,.string ⟨#[]⟩,.int .i64 0,.int .i64 0,.bool false,.int .i64 0,.int .u8 0],false⟩ .l) 262 ⟨.st [(0,83),(15,5)],16,144,true,[.int .u8 0,.int .i64 0,.int .i64 0,.int .i64 0,.int .i64 0,.bool false,.bool false,.int .i64 0,.int .i64 0,.slice none 0 0,.string ⟨#[]⟩,.int .i64 0,.int .i64 0,.bool false,.int .i64 0,.int .u8 0],false⟩ .l) 264 ⟨.fn,1,8,false,[.nilFunc],false⟩ (.n .l 265 ⟨.fn,1,8,false,[.nilFunc],false⟩ .l))) 267 ⟨.fn,1,8,false,[.nilFunc],false⟩ (.n (.n (.n (.n .l 269 ⟨.fn,1,8,false,[.nilFunc],false⟩ .l) 270 ⟨.fn,1,8,false,[.nilFunc],false⟩ .l) 272 ⟨.fn,1,8,false,[.nilFunc],false⟩ (.n .l 273 ⟨.fn,1,8,false,[.nilFunc],false⟩ .l)) 274 ⟨.fn,1,8,false,[.nilFunc],false⟩ (.n (.n .l 275 ⟨.fn,1,8,false,[.nilFunc],false⟩ .l) 276 ⟨.fn,1,8,false,[.nilFunc],false⟩ (.n .l 278 ⟨.fn,1,8,false,[.nilFunc],false⟩ .l)))) 280 ⟨.fn,1,8,false,[.nilFunc],false⟩ (.n (.n (.n (.n (.n .l 281 ⟨.fn,1,8,false,[.nilFunc],false⟩ .l) 282 ⟨.fn,1,8,false,[.nilFunc],false⟩ .l) 283 ⟨.fn,1,8,false,[.nilFunc],false⟩ (.n .l 285 ⟨.fn,1,8,false,[.nilFunc],false⟩ .l)) 286 ⟨.fn,1,8,false,[.nilFunc],false⟩ (.n (.n (.n .l 287 ⟨.int .u64,1,8,false,[.int .u64 0],false⟩ .l) 288 ⟨.fn,1,8,false,[.nilFunc],false⟩ .l) 289 ⟨.fn,1,8,false,[.nilFunc],false⟩ (.n .l 290 ⟨.fn,1,8,false,[.nilFunc],false⟩ .l))) 291 ⟨.ptr 3,1,8,false,[.pointer none],false⟩ (.n (.n (.n (.n .l 292 ⟨.fn,1,8,false,[.nilFunc],false⟩ .l) 293 ⟨.fn,1,8,false,[.nilFunc],false⟩ .l) 294 ⟨.fn,1,8,false,[.nilFunc],false⟩ (.n .l 295 ⟨.fn,1,8,false,[.nilFunc],false⟩ .l)) 297 ⟨.fn,1,8,false,[.nilFunc],false⟩ (.n (.n .l 298 ⟨.fn,1,8,false,[.nilFunc],false⟩ .l) 299 ⟨.fn,1,8,false,[.nilFunc],false⟩ (.n .l 300 ⟨.fn,1,8,false,[.nilFunc],false⟩ .l))))) 301 ⟨.fn,1,8,false,[.nilFunc],false⟩ (.n (.n (.n (.n (.n (.n .l 302 ⟨.fn,1,8,false,[.nilFunc],false⟩ .l) 303 ⟨.fn,1,8,false,[.nilFunc],false⟩ .l) 304 ⟨.fn,1,8,false,[.nilFunc],false⟩ (.n .l 305 ⟨.fn,1,8,false,[.nilFunc],false⟩ .l)) 306 ⟨.fn,1,8,false,[.nilFunc],false⟩ (.n (.n (.n .l 307 ⟨.fn,1,8,false,[.nilFunc],false⟩ .l) 308 ⟨.fn,1,8,false,[.nilFunc],false⟩ .l) 309 ⟨.fn,1,8,false,[.nilFunc],false⟩ (.n .l 310 ⟨.fn,1,8,false,[.nilFunc],false⟩ .l))) 311 ⟨.fn,1,8,false,[.nilFunc],false⟩ (.n (.n (.n (.n .l 312 ⟨.fn,1,8,false,[.nilFunc],false⟩ .l) 313 ⟨.fn,1,8,false,[.nilFunc],false⟩ .l) 314 ⟨.fn,1,8,false,[.nilFunc],false⟩ (.n .l 315 ⟨.ptr 287,1,8,false,[.pointer none],false⟩ .l)) 317 ⟨.fn,1,8,false,[.nilFunc],false⟩ (.n (.n .l 318 ⟨.fn,1,8,false,[.nilFunc],false⟩ .l) 319 ⟨.fn,1,8,false,[.nilFunc],false⟩ (.n .l 320 ⟨.fn,1,8,false,[.nilFunc],false⟩ .l)))) 321 ⟨.fn,1,8,false,[.nilFunc],false⟩ (.n (.n (.n (.n (.n .l 322 ⟨.fn,1,8,false,[.nilFunc],false⟩ .l) 323 ⟨.fn,1,8,false,[.nilFunc],false⟩ .l) 324 ⟨.fn,1,8,false,[.nilFunc],false⟩ (.n .l 325 ⟨.fn,1,8,false,[.nilFunc],false⟩ .l)) 326 ⟨.arr 3 5,3,3,true,[.int .u8 0,.int .u8 0,.int .u8 0],true⟩ (.n (.n .l 327 ⟨.fn,1,8,false,[.nilFunc],false⟩ .l) 328 ⟨.st [(0,17),(1,17),(2,17),(3,9)],4,40,true,[.pointer none,.pointer none,.pointer none,.string ⟨#[]⟩],false⟩ (.n .l 329 ⟨.st [(0,17),(1,17),(2,17),(3,9)],4,40,true,[.pointer none,.pointer none,.pointer none,.string ⟨#[]⟩],false⟩ .l))) 333 ⟨.int .u8,1,1,false,[.int .u8 0],false⟩ (.n (.n (.n (.n .l 334 ⟨.int .u8,1,1,false,[.int .u8 0],false⟩ .l) 335 ⟨.fn,1,8,false,[.nilFunc],false⟩ .l) 336 ⟨.ptr 5,1,8,false,[.pointer none],false⟩ (.n .l 337 ⟨.int .i32,1,4,false,[.int .i32 0],false⟩ .l)) 338 ⟨.int .i32,1,4,false,[.int .i32 0],false⟩ (.n (.n .l 339 ⟨.st [(0,12),(1,12),(2,144),(3,333),(4,5),(5,5),(6,334),(7,335),(8,336),(9,337),(10,338)],11,48,true,[.int .u64 0,.int .u64 0,.int .u32 0,.int .u8 0,.int .u8 0,.int .u8 0,.int .u8 0,.nilFunc,.pointer none,.int .i32 0,.int .i32 0],false⟩ .l) 340 ⟨.st [(0,12),(1,12),(2,144),(3,333),(4,5),(5,5),(6,334),(7,335),(8,336),(9,337),(10,338)],11,48,true,[.int .u64 0,.int .u64 0,.int .u32 0,.int .u8 0,.int .u8 0,.int .u8 0,.int .u8 0,.nilFunc,.pointer none,.int .i32 0,.int .i32 0],false⟩ (.n .l 341 ⟨.other,1,8,false,[.pointer none],false⟩ .l))))))))
set_option maxRecDepth 100000 in
theorem A8 : B8 Tryz.prog T.get:=Tr.ok (by kernel_rfl)
end Go.Proofs.YtagnjflbhjmefaaGreat
namespace Go.Proofs.YtagnjflbhjmefaaGreat
open Go.Gar
set_option maxRecDepth 4000
theorem mixed : Tryz.prog.follows .mixedOrders = true:=by kernel_rfl
theorem DW {α : Type} [BEq α] [LawfulBEq α] [DecidableEq α] (a b : α) : (a == b) = decide (a = b):=by
 by_cases h : a = b <;> simp [h]
theorem AG {α : Type} {xs : List α} {k : Nat} (h : k < xs.length) : ∃ x,xs[k]? = some x:=⟨xs[k],List.getElem?_eq_getElem h⟩
theorem AR {α : Type} {l : List α} {k : Nat} {x : α} (hx : l[k]? = some x) : l.take (k + 1) = l.take k ++ [x]:=by
 rw [List.take_add_one,hx];rfl
theorem Bb {a b : Int} (h : a = b) : (a != b) = false:=by rw [bne_eq_false_iff_eq];exact h
theorem Be {a b : Int} (h : a ≠ b) : (a != b) = true:=by rw [bne_iff_ne];exact h
theorem eq_false' {a b : Int} (h : a ≠ b) : (a == b) = false:=by rw [beq_eq_false_iff_ne];exact h
theorem Ar {a b : Int} (h : a = b) : (a == b) = true:=by rw [beq_iff_eq];exact h
structure Item where
 key : List UInt8
 value : Int
 version : Int
 gone : Bool
 deriving DecidableEq
def Item.cells (x : Item) : List D:=[.s x.key,.i .i64 x.value,.i .i64 x.version,.b x.gone]
def Item.d (x : Item) : D:=.agg x.cells
abbrev BB (l : List Item) : D:=.sl 4 (l.map Item.cells)
def AP : Item:=⟨[],0,0,false⟩
theorem UH (x y : Item) : I8 x.cells y.cells = decide (x = y):=by
 obtain ⟨a,b,c,d⟩:=x
 obtain ⟨a',b',c',d'⟩:=y
 simp [Item.cells,I8,eq1,DW]
theorem Fj (x y : Item) : I8 [.s x.key,.i .i64 x.value,.i .i64 x.version,.b x.gone] [.s y.key,.i .i64 y.value,.i .i64 y.version,.b y.gone] = decide (x = y):=UH x y
end Go.Proofs.YtagnjflbhjmefaaGreat
namespace Go.Proofs.YtagnjflbhjmefaaGreat
namespace Wi
open Go.Gar
abbrev pat : BitVec 32:=0x741b8cd7#32
def UW (b : Bool) : BitVec 32:=if b then 1#32 else 0#32
def Dm (s : BitVec 32) (b : Bool) : BitVec 32:=(s <<< 1 ^^^ UW b) ^^^ (if s.getLsbD 31 then pat else 0#32)
def CM (s : BitVec 32) (l : List Bool) : BitVec 32:=l.foldl Dm s
theorem F4 (s : BitVec 32) (l m : List Bool) : CM s (l ++ m) = CM (CM s l) m:=by simp [CM]
end Wi
end Go.Proofs.YtagnjflbhjmefaaGreat
namespace Go.Proofs.YtagnjflbhjmefaaGreat
open Go.Gar
set_option maxRecDepth 4000
def fits (n : Int) : Bool:=decide (n ≥ 0) && decide (n ≤ 1099511627776)
def GM (n : Nat) : Nat:=if n = 0 then 0 else n.log2 + 1
theorem LX {n k : Nat} : GM n = k ↔ n < 2 ^ k ∧ (k = 0 ∨ 2 ^ (k - 1) ≤ n):=by
 unfold GM
 split
 ·rename_i h;subst h
  constructor
  ·intro h;subst h;simp
  ·rintro ⟨h1,h2 | h2⟩
   ·exact h2.symm
   ·have : 0 < 2 ^ (k - 1):=Nat.two_pow_pos _
    omega
 ·rename_i h
  constructor
  ·intro hk
   subst hk
   exact ⟨Nat.lt_log2_self,.inr (by simpa using Nat.log2_self_le h)⟩
  ·rintro ⟨h1,h2⟩
   have h2' : k ≠ 0:=fun e => by subst e;simp at h1;omega
   have h2 : 2 ^ (k - 1) ≤ n:=by rcases h2 with h2 | h2;exact absurd h2 h2';exact h2
   have:=(Nat.log2_eq_iff h).2 ⟨h2,by rwa [show k - 1 + 1 = k by omega]⟩
   omega
def size (n : Nat) : Nat:=(GM n + 7) / 8
def X0 (n i : Nat) : UInt8:=UInt8.ofNat (n / 256 ^ i % 256)
def GD (n : Nat) : List UInt8:=(List.range (size n)).map fun j => X0 n (size n - 1 - j)
def Ck (n : Nat) : List UInt8:=UInt8.ofNat (size n) :: GD n
theorem size_le (n : Nat) (h : n < 281474976710656) : size n ≤ 6:=by
 have:=(LX (n:=n) (k:=GM n)).1 rfl
 have : GM n ≤ 48:=by
  rcases this.2 with h2 | h2
  ·omega
  ·rcases Nat.lt_or_ge 48 (GM n) with h3 | h3
   ·have : 2 ^ 48 ≤ 2 ^ (GM n - 1):=Nat.pow_le_pow_right (by decide) (by omega)
    omega
   ·exact h3
 simp only [size];omega
end Go.Proofs.YtagnjflbhjmefaaGreat
namespace Go.Proofs
open Go.Shelf
def Tryz.LC : Go.Shelf.Ren:=⟨fun | 189 => 122 | 125 => 170 | 257 => 169 | 128 => 241 | 129 => 242 | 294 => 232 | 295 => 233 | 296 => 234 | 297 => 235 | 298 => 236 | 299 => 237 | 216 => 238 | 300 => 239 | 301 => 240 | 328 => 278 | 329 => 279 | 330 => 280 | 331 => 281 | 332 => 282 | 215 => 283 | 343 => 310 | n => n,fun | 28 => 23 | 3 => 3 | 46 => 145 | 0 => 0 | 51 => 144 | 53 => 248 | 4 => 4 | 183 => 241 | 182 => 240 | 131 => 31 | 5 => 5 | 9 => 9 | 218 => 287 | 222 => 291 | 228 => 315 | 229 => 316 | n => n,fun | n => n⟩
theorem Tryz.Li : Go.Proofs.Lays.n189 Tryz.prog Tryz.LC:={
 mixed:=by kernel_rfl
 f125:=Tryz.func170.trans (congrArg some (by kernel_rfl))
 f128:=Tryz.func241.trans (congrArg some (by kernel_rfl))
 f129:=Tryz.func242.trans (congrArg some (by kernel_rfl))
 f189:=Tryz.func122.trans (congrArg some (by kernel_rfl))
 f215:=Tryz.func283.trans (congrArg some (by kernel_rfl))
 f216:=Tryz.func238.trans (congrArg some (by kernel_rfl))
 f257:=Tryz.func169.trans (congrArg some (by kernel_rfl))
 f294:=Tryz.func232.trans (congrArg some (by kernel_rfl))
 f295:=Tryz.func233.trans (congrArg some (by kernel_rfl))
 f296:=Tryz.func234.trans (congrArg some (by kernel_rfl))
 f297:=Tryz.func235.trans (congrArg some (by kernel_rfl))
 f298:=Tryz.func236.trans (congrArg some (by kernel_rfl))
 f299:=Tryz.func237.trans (congrArg some (by kernel_rfl))
 f300:=Tryz.func239.trans (congrArg some (by kernel_rfl))
 f301:=Tryz.func240.trans (congrArg some (by kernel_rfl))
 f328:=Tryz.func278.trans (congrArg some (by kernel_rfl))
 f329:=Tryz.func279.trans (congrArg some (by kernel_rfl))
 f330:=Tryz.func280.trans (congrArg some (by kernel_rfl))
 f331:=Tryz.func281.trans (congrArg some (by kernel_rfl))
 f332:=Tryz.func282.trans (congrArg some (by kernel_rfl))
 f343:=Tryz.func310.trans (congrArg some (by kernel_rfl))
 t0:=Tryz.underlying0
 a0:=Tryz.isAgg0
 z0:=Tryz.sizeOf0
 v0:=Tryz.zeroValue0
 t3:=Tryz.underlying3
 a3:=Tryz.isAgg3
 z3:=Tryz.sizeOf3
 v3:=Tryz.zeroValue3
 t4:=Tryz.underlying4
 a4:=Tryz.isAgg4
 z4:=Tryz.sizeOf4
 v4:=Tryz.zeroValue4
 t5:=Tryz.underlying5
 a5:=Tryz.isAgg5
 z5:=Tryz.sizeOf5
 v5:=Tryz.zeroValue5
 t9:=Tryz.underlying9
 a9:=Tryz.isAgg9
 z9:=Tryz.sizeOf9
 v9:=Tryz.zeroValue9
 t28:=Tryz.underlying23
 a28:=Tryz.isAgg23
 z28:=Tryz.sizeOf23
 v28:=Tryz.zeroValue23
 t46:=Tryz.underlying145
 a46:=Tryz.isAgg145
 z46:=Tryz.sizeOf145
 v46:=Tryz.zeroValue145
 t51:=Tryz.underlying144
 a51:=Tryz.isAgg144
 z51:=Tryz.sizeOf144
 v51:=Tryz.zeroValue144
 t53:=Tryz.underlying248
 a53:=Tryz.isAgg248
 z53:=Tryz.sizeOf248
 v53:=Tryz.zeroValue248
 t131:=Tryz.underlying31
 a131:=Tryz.isAgg31
 z131:=Tryz.sizeOf31
 v131:=Tryz.zeroValue31
 t182:=Tryz.underlying240
 a182:=Tryz.isAgg240
 z182:=Tryz.sizeOf240
 v182:=Tryz.zeroValue240
 t183:=Tryz.underlying241
 a183:=Tryz.isAgg241
 z183:=Tryz.sizeOf241
 v183:=Tryz.zeroValue241
 t218:=Tryz.underlying287
 a218:=Tryz.isAgg287
 z218:=Tryz.sizeOf287
 v218:=Tryz.zeroValue287
 t222:=Tryz.underlying291
 a222:=Tryz.isAgg291
 z222:=Tryz.sizeOf291
 v222:=Tryz.zeroValue291
 t228:=Tryz.underlying315
 a228:=Tryz.isAgg315
 z228:=Tryz.sizeOf315
 v228:=Tryz.zeroValue315
 t229:=Tryz.underlying316
 a229:=Tryz.isAgg316
 z229:=Tryz.sizeOf316
 v229:=Tryz.zeroValue316 }
end Go.Proofs
