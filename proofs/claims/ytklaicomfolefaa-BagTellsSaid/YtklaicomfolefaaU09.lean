/- Part 9 of a proof. Conditions: those that its theorems state. -/
import Derived.Test.YtklaicomfolefaaU05
import Derived.Test.YtklaicomfolefaaProg
set_option linter.unusedSimpArgs false
set_option linter.unusedVariables false
set_option maxHeartbeats 40000000
set_option maxRecDepth 4000
namespace Go.Proofs.Ytklaicomfolefaa
open Go.Gar
set_option maxRecDepth 100000
def T:Tr:=(.n (.n (.n (.n (.n (.n .l 2 ⟨.int .i64,1,8,false,[.int .i64 0],false⟩ .l) 3 ⟨.int .i64,1,8,false,[.int .i64 0],false⟩ .l) 4 ⟨.bool,1,1,false,[.bool false],false⟩ (.n (.n .l 5 ⟨.int .u8,1,1,false,[.int .u8 0],false⟩ .l) 6 ⟨.int .u8,1,1,false,[.int .u8 0],false⟩ .l)) 8 ⟨.st [(0,2),(1,3),(2,4),(3,6)],4,24,true,[.int .i64 0,.int .i64 0,.bool false,.int .u8 0],false⟩ (.n (.n (.n .l 9 ⟨.str,1,16,false,[.string ⟨#[]⟩],false⟩ .l) 10 ⟨.str,1,16,false,[.string ⟨#[]⟩],false⟩ .l) 11 ⟨.str,1,16,false,[.string ⟨#[]⟩],false⟩ (.n .l 12 ⟨.int .u64,1,8,false,[.int .u64 0],false⟩ .l))) 14 ⟨.st [(0,9),(1,12)],2,24,true,[.string ⟨#[]⟩,.int .u64 0],false⟩ (.n (.n (.n (.n .l 15 ⟨.ptr 67,1,8,false,[.pointer none],false⟩ .l) 16 ⟨.ptr 70,1,8,false,[.pointer none],false⟩ .l) 17 ⟨.ptr 80,1,8,false,[.pointer none],false⟩ (.n .l 19 ⟨.st [(0,17)],1,8,true,[.pointer none],false⟩ .l)) 20 ⟨.ifc,1,16,false,[.nilIface],false⟩ (.n (.n (.n .l 22 ⟨.sl 29,1,24,false,[.slice none 0 0],false⟩ .l) 24 ⟨.st [(0,22),(1,3)],2,32,true,[.slice none 0 0,.int .i64 0],false⟩ .l) 27 ⟨.sl 5,1,24,false,[.slice none 0 0],false⟩ (.n .l 29 ⟨.st [(0,3),(1,27),(2,4)],3,40,true,[.int .i64 0,.slice none 0 0,.bool false],false⟩ .l)))) 34 ⟨.fn,1,8,false,[.nilFunc],false⟩ (.n (.n (.n (.n (.n .l 35 ⟨.int .i64,1,8,false,[.int .i64 0],false⟩ .l) 39 ⟨.sl 3,1,24,false,[.slice none 0 0],false⟩ .l) 43 ⟨.sl 45,1,24,false,[.slice none 0 0],false⟩ (.n .l 45 ⟨.st [(0,3),(1,3),(2,3),(3,5),(4,29)],7,72,true,[.int .i64 0,.int .i64 0,.int .i64 0,.int .u8 0,.int .i64 0,.slice none 0 0,.bool false],false⟩ .l)) 50 ⟨.sl 24,1,24,false,[.slice none 0 0],false⟩ (.n (.n (.n .l 56 ⟨.ptr 29,1,8,false,[.pointer none],false⟩ .l) 57 ⟨.fn,1,8,false,[.nilFunc],false⟩ .l) 61 ⟨.fn,1,8,false,[.nilFunc],false⟩ (.n .l 62 ⟨.fn,1,8,false,[.nilFunc],false⟩ .l))) 64 ⟨.fn,1,8,false,[.nilFunc],false⟩ (.n (.n (.n (.n .l 67 ⟨.st [(0,17),(1,17),(2,17),(3,9)],4,40,true,[.pointer none,.pointer none,.pointer none,.string ⟨#[]⟩],false⟩ .l) 72 ⟨.int .u32,1,4,false,[.int .u32 0],false⟩ .l) 73 ⟨.int .u8,1,1,false,[.int .u8 0],false⟩ (.n .l 74 ⟨.int .u8,1,1,false,[.int .u8 0],false⟩ .l)) 75 ⟨.fn,1,8,false,[.nilFunc],false⟩ (.n (.n (.n .l 76 ⟨.ptr 5,1,8,false,[.pointer none],false⟩ .l) 77 ⟨.int .i32,1,4,false,[.int .i32 0],false⟩ .l) 78 ⟨.int .i32,1,4,false,[.int .i32 0],false⟩ (.n .l 80 ⟨.st [(0,12),(1,12),(2,72),(3,73),(4,5),(5,5),(6,74),(7,75),(8,76),(9,77),(10,78)],11,48,true,[.int .u64 0,.int .u64 0,.int .u32 0,.int .u8 0,.int .u8 0,.int .u8 0,.int .u8 0,.nilFunc,.pointer none,.int .i32 0,.int .i32 0],false⟩ .l)))))
theorem AM:AW Try.prog T.get:=Tr.ok (by kernel_rfl)
end Go.Proofs.Ytklaicomfolefaa
namespace Go.Proofs.Ytklaicomfolefaa
open Go.Gar
abbrev Ov:=Go.Gar.Fn Try.prog
abbrev Ox:=Di Try.prog
end Go.Proofs.Ytklaicomfolefaa
