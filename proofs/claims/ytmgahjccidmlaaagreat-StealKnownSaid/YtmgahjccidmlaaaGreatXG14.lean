import Derived.Test.YtmgahjccidmlaaaGreatXG13
set_option linter.unusedSimpArgs false
set_option linter.unusedVariables false
section
namespace Go.Am.F10
set_option maxRecDepth 10000
def docs_Made:AFn:={ nloc:=4,npar:=1,res:=[.cell 2 (some 6)],body:=(.seq (.region [⟨.box,[.loc 0],some 1,none⟩,⟨.alloc [.int .i64 0,.int .i64 0,.int .i64 0,.int .i64 0,.int .i64 0,.int .i64 0],[],some 2,none⟩]) (.seq (.region [⟨.faddr 0,[.loc 1],none,none⟩,⟨.load none,[.tmp 0],none,none⟩,
 ⟨.call 87,[.tmp 1,.c (.int .i64 4)],none,none⟩,⟨.bin .add,[.c (.int .i64 1),.tmp 2],none,none⟩,⟨.mov,[.tmp 3],some 3,none⟩]) (.seq (.draw [0,1,2,3,4,5,6,7,8,9,10,11,12,13,14,15,16,17,18,19,20,21,22,23] 0 [⟨.mov,[.loc 3],none,none⟩,⟨.faddr 1,[.loc 1],none,none⟩,⟨.load none,[.tmp 1],none,none⟩,
 ⟨.call 87,[.tmp 2,.c (.int .i64 3)],none,none⟩,⟨.shf .shl,[.c (.int .i64 2),.tmp 3],none,none⟩,⟨.faddr 2,[.loc 1],none,none⟩,⟨.load none,[.tmp 5],none,none⟩,⟨.call 87,[.tmp 6,.c (.int .i64 20)],none,none⟩,⟨.bin .add,[.c (.int .i64 1),.tmp 7],none,none⟩,⟨.mov,[.loc 3],none,none⟩,
 ⟨.bin .add,[.tmp 9,.c (.int .i64 1)],none,none⟩,⟨.faddr 3,[.loc 1],none,none⟩,⟨.load none,[.tmp 11],none,none⟩,⟨.call 87,[.tmp 12,.c (.int .i64 3)],none,none⟩,⟨.bin .add,[.tmp 10,.tmp 13],none,none⟩,⟨.faddr 4,[.loc 1],none,none⟩,⟨.load none,[.tmp 15],none,none⟩,
 ⟨.call 87,[.tmp 16,.c (.int .i64 6)],none,none⟩,⟨.bin .add,[.c (.int .i64 2),.tmp 17],none,none⟩,⟨.faddr 5,[.loc 1],none,none⟩,⟨.load none,[.tmp 19],none,none⟩,⟨.call 87,[.tmp 20,.c (.int .i64 3)],none,none⟩,
 ⟨.build [.int .i64 0,.int .i64 0,.int .i64 0,.int .i64 0,.int .i64 0,.int .i64 0] [(0,1),(1,1),(2,1),(3,1),(4,1),(5,1)],[.tmp 0,.tmp 4,.tmp 8,.tmp 14,.tmp 18,.tmp 21],none,none⟩,⟨.store 6,[.loc 2,.tmp 22],none,none⟩] [(6,[0]),(12,[0,4]),(16,[0,4,8]),(20,[0,4,8,14])]) .ret)))}
def kit_Pick:AFn:={ nloc:=4,npar:=2,res:=[.loc 2],body:=(.seq (.region [⟨.mov,[.c (.int .i64 0)],some 2,none⟩]) (.seq (.seq (.region [⟨.mov,[.loc 1],none,none⟩,⟨.bin .leq,[.tmp 0,.c (.int .i64 0)],some 3,none⟩]) (.cond (.loc 3) (.seq (.region [
 ⟨.mov,[.c (.int .i64 0)],some 2,none⟩]) .ret) .skip)) (.seq (.region [⟨.mov,[.loc 0],none,none⟩,⟨.mov,[.loc 1],none,none⟩,⟨.bin .rem,[.tmp 0,.tmp 1],none,none⟩,⟨.mov,[.loc 1],none,none⟩,⟨.bin .add,[.tmp 2,.tmp 3],none,none⟩,⟨.mov,[.loc 1],none,none⟩,⟨.bin .rem,[.tmp 4,.tmp 5],none,none⟩,
 ⟨.mov,[.tmp 6],some 2,none⟩]) .ret)))}
def docs_Mem:AFn:={ nloc:=7,npar:=1,res:=[.loc 1,.cell 2 (some 2)],body:=(.seq (.region [⟨.mov,[.c (.nilp)],some 1,none⟩,⟨.alloc [.nils,.int .u64 0],[],some 2,none⟩]) (.seq (.region [⟨.mov,[.loc 0],none,none⟩,⟨.len,[.tmp 0],none,none⟩,⟨.call 21,[.tmp 1],none,none⟩,⟨.mov,[.loc 0],none,none⟩,
 ⟨.len,[.tmp 3],none,none⟩,⟨.call 63,[.tmp 4],none,none⟩,⟨.alloc [.nils,.int .u64 0],[],some 4,none⟩,⟨.mov,[.tmp 2],some 3,none⟩,⟨.store 2,[.tmp 6,.tmp 5],none,none⟩]) (.seq (.seq (.region [⟨.mov,[.c (.int .i64 0)],some 5,none⟩]) (.block 0 (.loop (.seq (.seq (.region [⟨.mov,[.loc 5],none,none⟩,
 ⟨.mov,[.loc 0],none,none⟩,⟨.len,[.tmp 1],none,none⟩,⟨.bin .lss,[.tmp 0,.tmp 2],none,none⟩,⟨.mov,[.tmp 3],none,none⟩,⟨.mov,[.loc 5],none,some (4,true)⟩,⟨.faddr 0,[.loc 4],none,some (4,true)⟩,⟨.load none,[.tmp 6],none,some (4,true)⟩,⟨.len,[.tmp 7],none,some (4,true)⟩,
 ⟨.bin .lss,[.tmp 5,.tmp 8],none,some (4,true)⟩,⟨.pick,[.tmp 4,.tmp 9,.c (.bool false)],some 6,none⟩]) (.cond (.loc 6) .skip (.exit 0))) (.seq (.block 1 (.seq (.region [⟨.mov,[.loc 3],none,none⟩,⟨.mov,[.loc 5],none,none⟩,⟨.mov,[.loc 0],none,none⟩,⟨.mov,[.loc 5],none,none⟩,
 ⟨.iaddr 1 none,[.tmp 2,.tmp 3],none,none⟩,⟨.load none,[.tmp 4],none,none⟩,⟨.call 22,[.tmp 0,.tmp 1,.tmp 5],none,none⟩]) (.region [⟨.load (some 2),[.loc 4],none,none⟩,⟨.mov,[.loc 5],none,none⟩,⟨.mov,[.loc 0],none,none⟩,⟨.mov,[.loc 5],none,none⟩,⟨.iaddr 1 none,[.tmp 2,.tmp 3],none,none⟩,
 ⟨.load none,[.tmp 4],none,none⟩,⟨.call 65,[.tmp 0,.tmp 1,.tmp 5],none,none⟩,⟨.store 2,[.loc 4,.tmp 6],none,none⟩]))) (.region [⟨.mov,[.loc 5],none,none⟩,⟨.bin .add,[.tmp 0,.c (.int .i64 1)],none,none⟩,⟨.mov,[.tmp 1],some 5,none⟩])))))) (.seq (.region [⟨.mov,[.loc 3],none,none⟩,
 ⟨.load (some 2),[.loc 4],none,none⟩,⟨.mov,[.tmp 0],some 1,none⟩,⟨.store 2,[.loc 2,.tmp 1],none,none⟩]) .ret))))}
def docs_Filled:AFn:={ nloc:=13,npar:=2,res:=[.loc 3],body:=(.seq (.region [⟨.box,[.loc 0],some 2,none⟩,⟨.mov,[.c (.nils)],some 3,none⟩]) (.seq (.region [⟨.load (some 6),[.loc 2],none,none⟩,⟨.call 156,[.tmp 0],none,none⟩,⟨.make 1 8 [.int .u64 0],[.tmp 1,.tmp 1],none,none⟩,
 ⟨.mov,[.tmp 2],some 4,none⟩]) (.seq (.seq (.region [⟨.mov,[.c (.int .i64 0)],some 5,none⟩]) (.block 0 (.loop (.seq (.seq (.region [⟨.mov,[.loc 5],none,none⟩,⟨.faddr 0,[.loc 2],none,none⟩,⟨.load none,[.tmp 1],none,none⟩,⟨.bin .lss,[.tmp 0,.tmp 2],none,none⟩,⟨.mov,[.tmp 3],none,none⟩,
 ⟨.load (some 6),[.loc 2],none,some (4,true)⟩,⟨.call 157,[.tmp 5],none,some (4,true)⟩,⟨.pick,[.tmp 4,.tmp 6,.c (.bool false)],some 9,none⟩]) (.cond (.loc 9) .skip (.exit 0))) (.seq (.block 1 (.seq (.region [⟨.mov,[.loc 1],none,none⟩,⟨.mov,[.loc 5],none,none⟩,
 ⟨.bin .mul,[.c (.int .i64 4),.tmp 1],none,none⟩,⟨.call 158,[.tmp 0,.tmp 2],none,none⟩,⟨.bin .rem,[.tmp 3,.c (.int .i64 7)],none,none⟩,⟨.conv .u32,[.tmp 4],none,none⟩,⟨.mov,[.tmp 5],some 6,none⟩]) (.seq (.seq (.region [⟨.mov,[.loc 1],none,none⟩,⟨.mov,[.loc 5],none,none⟩,
 ⟨.bin .mul,[.c (.int .i64 4),.tmp 1],none,none⟩,⟨.call 158,[.tmp 0,.tmp 2],none,none⟩,⟨.bin .rem,[.tmp 3,.c (.int .i64 5)],none,none⟩,⟨.bin .eql,[.tmp 4,.c (.int .i64 0)],some 10,none⟩]) (.cond (.loc 10) (.region [⟨.mov,[.loc 6],none,none⟩,⟨.neg,[.tmp 0],none,none⟩,
 ⟨.bin .sub,[.tmp 1,.c (.int .u32 1)],none,none⟩,⟨.mov,[.tmp 2],some 6,none⟩]) .skip)) (.seq (.draw [0,1,2,3,4,5,6,7,8,9,10] 0 [⟨.mov,[.loc 1],none,none⟩,⟨.mov,[.loc 5],none,none⟩,⟨.bin .mul,[.c (.int .i64 4),.tmp 1],none,none⟩,⟨.bin .add,[.tmp 2,.c (.int .i64 1)],none,none⟩,
 ⟨.call 158,[.tmp 0,.tmp 3],none,none⟩,⟨.faddr 1,[.loc 2],none,none⟩,⟨.load none,[.tmp 5],none,none⟩,⟨.bin .add,[.tmp 6,.c (.int .i64 1)],none,none⟩,⟨.bin .rem,[.tmp 4,.tmp 7],none,none⟩,⟨.conv .u32,[.tmp 8],none,none⟩,⟨.mov,[.tmp 9],some 7,none⟩] [(6,[0])]) (.seq (.region [⟨.mov,[.loc 4],none,none⟩,
 ⟨.load (some 6),[.loc 2],none,none⟩,⟨.mov,[.loc 5],none,none⟩,⟨.call 159,[.tmp 1,.tmp 2],none,none⟩,⟨.mov,[.loc 6],none,none⟩,⟨.conv .u64,[.tmp 4],none,none⟩,⟨.shf .shl,[.tmp 5,.c (.int .u64 32)],none,none⟩,⟨.mov,[.loc 6],none,none⟩,⟨.mov,[.loc 7],none,none⟩,⟨.bin .add,[.tmp 7,.tmp 8],none,none⟩,
 ⟨.conv .u64,[.tmp 9],none,none⟩,⟨.bin .or,[.tmp 6,.tmp 10],none,none⟩,⟨.iaddr 1 none,[.tmp 0,.tmp 3],none,none⟩,⟨.store 1,[.tmp 12,.tmp 11],none,none⟩]) (.seq (.seq (.region [⟨.mov,[.c (.int .u32 0)],some 8,none⟩]) (.block 2 (.loop (.seq (.seq (.region [⟨.mov,[.loc 8],none,none⟩,
 ⟨.mov,[.loc 7],none,none⟩,⟨.bin .lss,[.tmp 0,.tmp 1],some 11,none⟩]) (.cond (.loc 11) .skip (.exit 2))) (.seq (.block 3 (.region [⟨.mov,[.loc 4],none,none⟩,⟨.load (some 6),[.loc 2],none,none⟩,⟨.mov,[.loc 5],none,none⟩,⟨.mov,[.loc 6],none,none⟩,⟨.mov,[.loc 8],none,none⟩,
 ⟨.bin .add,[.tmp 3,.tmp 4],none,none⟩,⟨.call 160,[.tmp 1,.tmp 2,.tmp 5],none,none⟩,⟨.mov,[.loc 5],none,none⟩,⟨.bin .mul,[.tmp 7,.c (.int .i64 100)],none,none⟩,⟨.conv .u64,[.tmp 8],none,none⟩,⟨.mov,[.loc 8],none,none⟩,⟨.conv .u64,[.tmp 10],none,none⟩,⟨.bin .add,[.tmp 9,.tmp 11],none,none⟩,
 ⟨.iaddr 1 none,[.tmp 0,.tmp 6],none,none⟩,⟨.store 1,[.tmp 13,.tmp 12],none,none⟩])) (.region [⟨.mov,[.loc 8],none,none⟩,⟨.bin .add,[.tmp 0,.c (.int .u32 1)],none,none⟩,⟨.mov,[.tmp 1],some 8,none⟩])))))) (.seq (.seq (.region [⟨.mov,[.loc 1],none,none⟩,⟨.mov,[.loc 5],none,none⟩,
 ⟨.bin .mul,[.c (.int .i64 4),.tmp 1],none,none⟩,⟨.bin .add,[.tmp 2,.c (.int .i64 2)],none,none⟩,⟨.call 158,[.tmp 0,.tmp 3],none,none⟩,⟨.bin .rem,[.tmp 4,.c (.int .i64 3)],none,none⟩,⟨.bin .eql,[.tmp 5,.c (.int .i64 0)],some 12,none⟩]) (.cond (.loc 12) (.region [⟨.mov,[.loc 4],none,none⟩,
 ⟨.load (some 6),[.loc 2],none,none⟩,⟨.mov,[.loc 5],none,none⟩,⟨.call 161,[.tmp 1,.tmp 2],none,none⟩,⟨.mov,[.loc 5],none,none⟩,⟨.bin .mul,[.tmp 4,.c (.int .i64 100)],none,none⟩,⟨.conv .u64,[.tmp 5],none,none⟩,⟨.bin .add,[.tmp 6,.c (.int .u64 91)],none,none⟩,⟨.iaddr 1 none,[.tmp 0,.tmp 3],none,none⟩,
 ⟨.store 1,[.tmp 8,.tmp 7],none,none⟩]) .skip)) (.seq (.region [⟨.mov,[.loc 4],none,none⟩,⟨.load (some 6),[.loc 2],none,none⟩,⟨.mov,[.loc 5],none,none⟩,⟨.call 162,[.tmp 1,.tmp 2],none,none⟩,⟨.mov,[.loc 1],none,none⟩,⟨.mov,[.loc 5],none,none⟩,⟨.bin .mul,[.c (.int .i64 4),.tmp 5],none,none⟩,
 ⟨.bin .add,[.tmp 6,.c (.int .i64 2)],none,none⟩,⟨.call 158,[.tmp 4,.tmp 7],none,none⟩,⟨.bin .quo,[.tmp 8,.c (.int .i64 3)],none,none⟩,⟨.bin .rem,[.tmp 9,.c (.int .i64 3)],none,none⟩,⟨.conv .u64,[.tmp 10],none,none⟩,⟨.iaddr 1 none,[.tmp 0,.tmp 3],none,none⟩,
 ⟨.store 1,[.tmp 12,.tmp 11],none,none⟩]) (.seq (.region [⟨.mov,[.loc 4],none,none⟩,⟨.load (some 6),[.loc 2],none,none⟩,⟨.mov,[.loc 5],none,none⟩,⟨.call 163,[.tmp 1,.tmp 2],none,none⟩,⟨.mov,[.loc 1],none,none⟩,⟨.mov,[.loc 5],none,none⟩,⟨.bin .mul,[.c (.int .i64 4),.tmp 5],none,none⟩,
 ⟨.bin .add,[.tmp 6,.c (.int .i64 3)],none,none⟩,⟨.call 158,[.tmp 4,.tmp 7],none,none⟩,⟨.bin .rem,[.tmp 8,.c (.int .i64 9)],none,none⟩,⟨.conv .u64,[.tmp 9],none,none⟩,⟨.iaddr 1 none,[.tmp 0,.tmp 3],none,none⟩,⟨.store 1,[.tmp 11,.tmp 10],none,none⟩]) (.seq (.region [⟨.mov,[.loc 4],none,none⟩,
 ⟨.load (some 6),[.loc 2],none,none⟩,⟨.mov,[.loc 5],none,none⟩,⟨.call 164,[.tmp 1,.tmp 2],none,none⟩,⟨.mov,[.loc 1],none,none⟩,⟨.mov,[.loc 5],none,none⟩,⟨.bin .mul,[.c (.int .i64 4),.tmp 5],none,none⟩,⟨.bin .add,[.tmp 6,.c (.int .i64 3)],none,none⟩,⟨.call 158,[.tmp 4,.tmp 7],none,none⟩,
 ⟨.bin .quo,[.tmp 8,.c (.int .i64 9)],none,none⟩,⟨.bin .rem,[.tmp 9,.c (.int .i64 4)],none,none⟩,⟨.conv .u64,[.tmp 10],none,none⟩,⟨.iaddr 1 none,[.tmp 0,.tmp 3],none,none⟩,⟨.store 1,[.tmp 12,.tmp 11],none,none⟩]) (.region [⟨.mov,[.loc 4],none,none⟩,⟨.load (some 6),[.loc 2],none,none⟩,
 ⟨.mov,[.loc 5],none,none⟩,⟨.call 165,[.tmp 1,.tmp 2],none,none⟩,⟨.mov,[.loc 1],none,none⟩,⟨.mov,[.loc 5],none,none⟩,⟨.bin .mul,[.c (.int .i64 4),.tmp 5],none,none⟩,⟨.bin .add,[.tmp 6,.c (.int .i64 3)],none,none⟩,⟨.call 158,[.tmp 4,.tmp 7],none,none⟩,⟨.bin .quo,[.tmp 8,.c (.int .i64 36)],none,none⟩,
 ⟨.bin .rem,[.tmp 9,.c (.int .i64 2)],none,none⟩,⟨.conv .u64,[.tmp 10],none,none⟩,⟨.iaddr 1 none,[.tmp 0,.tmp 3],none,none⟩,⟨.store 1,[.tmp 12,.tmp 11],none,none⟩]))))))))))) (.region [⟨.mov,[.loc 5],none,none⟩,⟨.bin .add,[.tmp 0,.c (.int .i64 1)],none,none⟩,
 ⟨.mov,[.tmp 1],some 5,none⟩])))))) (.seq (.region [⟨.mov,[.loc 4],none,none⟩,⟨.mov,[.tmp 0],some 3,none⟩]) .ret))))}
def docs_Ring:AFn:={ nloc:=15,npar:=3,res:=[.loc 4],body:=(.seq (.region [⟨.box,[.loc 0],some 3,none⟩,⟨.mov,[.c (.nils)],some 4,none⟩]) (.seq (.region [⟨.mov,[.c (.nils)],some 5,none⟩]) (.seq (.region [⟨.mov,[.loc 1],none,none⟩,⟨.call 47,[.tmp 0],none,none⟩,⟨.mov,[.tmp 1],some 6,none⟩]) (.seq (.seq (.region [
 ⟨.mov,[.loc 6],none,none⟩,⟨.len,[.tmp 0],none,none⟩,⟨.load (some 6),[.loc 3],none,none⟩,⟨.call 156,[.tmp 2],none,none⟩,⟨.bin .lss,[.tmp 1,.tmp 3],none,none⟩,⟨.mov,[.tmp 4],none,none⟩,⟨.load (some 6),[.loc 3],none,some (5,false)⟩,⟨.mov,[.loc 2],none,some (5,false)⟩,
 ⟨.call 159,[.tmp 6,.tmp 7],none,some (5,false)⟩,⟨.bin .lss,[.tmp 8,.c (.int .i64 0)],none,some (5,false)⟩,⟨.pick,[.tmp 5,.c (.bool true),.tmp 9],none,none⟩,⟨.mov,[.tmp 10],none,none⟩,⟨.load (some 6),[.loc 3],none,some (11,false)⟩,⟨.mov,[.loc 2],none,some (11,false)⟩,
 ⟨.call 159,[.tmp 12,.tmp 13],none,some (11,false)⟩,⟨.mov,[.loc 6],none,some (11,false)⟩,⟨.len,[.tmp 15],none,some (11,false)⟩,⟨.bin .geq,[.tmp 14,.tmp 16],none,some (11,false)⟩,⟨.pick,[.tmp 11,.c (.bool true),.tmp 17],some 12,none⟩]) (.cond (.loc 12) (.seq (.region [
 ⟨.mov,[.c (.nils)],some 4,none⟩]) .ret) .skip)) (.seq (.region [⟨.mov,[.loc 6],none,none⟩,⟨.load (some 6),[.loc 3],none,none⟩,⟨.mov,[.loc 2],none,none⟩,⟨.call 159,[.tmp 1,.tmp 2],none,none⟩,⟨.iaddr 1 none,[.tmp 0,.tmp 3],none,none⟩,⟨.load none,[.tmp 4],none,none⟩,
 ⟨.mov,[.tmp 5],some 7,none⟩]) (.seq (.region [⟨.mov,[.loc 7],none,none⟩,⟨.shf .shr,[.tmp 0,.c (.int .u64 32)],none,none⟩,⟨.conv .u32,[.tmp 1],none,none⟩,⟨.mov,[.loc 7],none,none⟩,⟨.conv .u32,[.tmp 3],none,none⟩,⟨.mov,[.tmp 2],some 8,none⟩,⟨.mov,[.tmp 4],some 9,none⟩]) (.seq (.seq (.region [
 ⟨.mov,[.c (.int .u32 0)],some 10,none⟩]) (.block 0 (.loop (.seq (.seq (.region [⟨.mov,[.loc 10],none,none⟩,⟨.mov,[.loc 9],none,none⟩,⟨.mov,[.loc 8],none,none⟩,⟨.bin .sub,[.tmp 1,.tmp 2],none,none⟩,⟨.bin .lss,[.tmp 0,.tmp 3],none,none⟩,⟨.mov,[.tmp 4],none,none⟩,⟨.mov,[.loc 9],none,some (5,true)⟩,
 ⟨.mov,[.loc 8],none,some (5,true)⟩,⟨.bin .sub,[.tmp 6,.tmp 7],none,some (5,true)⟩,⟨.faddr 1,[.loc 3],none,some (5,true)⟩,⟨.load none,[.tmp 9],none,some (5,true)⟩,⟨.conv .u32,[.tmp 10],none,some (5,true)⟩,⟨.bin .leq,[.tmp 8,.tmp 11],none,some (5,true)⟩,
 ⟨.pick,[.tmp 5,.tmp 12,.c (.bool false)],some 13,none⟩]) (.cond (.loc 13) .skip (.exit 0))) (.seq (.block 1 (.seq (.region [⟨.load (some 6),[.loc 3],none,none⟩,⟨.mov,[.loc 2],none,none⟩,⟨.mov,[.loc 8],none,none⟩,⟨.mov,[.loc 10],none,none⟩,⟨.bin .add,[.tmp 2,.tmp 3],none,none⟩,
 ⟨.call 160,[.tmp 0,.tmp 1,.tmp 4],none,none⟩,⟨.mov,[.tmp 5],some 11,none⟩]) (.seq (.seq (.region [⟨.mov,[.loc 11],none,none⟩,⟨.bin .lss,[.tmp 0,.c (.int .i64 0)],none,none⟩,⟨.mov,[.tmp 1],none,none⟩,⟨.mov,[.loc 11],none,some (2,false)⟩,⟨.mov,[.loc 6],none,some (2,false)⟩,
 ⟨.len,[.tmp 4],none,some (2,false)⟩,⟨.bin .geq,[.tmp 3,.tmp 5],none,some (2,false)⟩,⟨.pick,[.tmp 2,.c (.bool true),.tmp 6],some 14,none⟩]) (.cond (.loc 14) (.seq (.region [⟨.mov,[.c (.nils)],some 4,none⟩]) .ret) .skip)) (.region [⟨.mov,[.loc 5],none,none⟩,⟨.mov,[.loc 6],none,none⟩,
 ⟨.mov,[.loc 11],none,none⟩,⟨.iaddr 1 none,[.tmp 1,.tmp 2],none,none⟩,⟨.load none,[.tmp 3],none,none⟩,⟨.conv .i64,[.tmp 4],none,none⟩,⟨.lit 1 1 [.int .i64 0] [(0,1)],[.tmp 5],none,none⟩,⟨.append 1 8,[.tmp 0,.tmp 6],none,none⟩,⟨.mov,[.tmp 7],some 5,none⟩])))) (.region [⟨.mov,[.loc 10],none,none⟩,
 ⟨.bin .add,[.tmp 0,.c (.int .u32 1)],none,none⟩,⟨.mov,[.tmp 1],some 10,none⟩])))))) (.seq (.region [⟨.mov,[.loc 5],none,none⟩,⟨.mov,[.tmp 0],some 4,none⟩]) .ret))))))))}
def docs_Thief:AFn:={ nloc:=11,npar:=4,res:=[.loc 5],body:=(.seq (.region [⟨.box,[.loc 0],some 4,none⟩,⟨.mov,[.c (.nils)],some 5,none⟩]) (.seq (.region [⟨.load (some 6),[.loc 4],none,none⟩,⟨.mov,[.loc 1],none,none⟩,⟨.mov,[.loc 2],none,none⟩,⟨.call 136,[.tmp 0,.tmp 1,.tmp 2],none,none⟩,
 ⟨.mov,[.tmp 3],some 6,none⟩]) (.seq (.region [⟨.mov,[.loc 3],none,none⟩,⟨.mov,[.loc 6],none,none⟩,⟨.len,[.tmp 1],none,none⟩,⟨.mov,[.loc 6],none,none⟩,⟨.len,[.tmp 3],none,none⟩,⟨.bin .quo,[.tmp 4,.c (.int .i64 2)],none,none⟩,⟨.bin .sub,[.tmp 2,.tmp 5],none,none⟩,⟨.min,[.tmp 0,.tmp 6],none,none⟩,
 ⟨.mov,[.tmp 7],some 7,none⟩]) (.seq (.seq (.region [⟨.mov,[.loc 7],none,none⟩,⟨.bin .leq,[.tmp 0,.c (.int .i64 0)],some 10,none⟩]) (.cond (.loc 10) (.seq (.region [⟨.mov,[.c (.nils)],some 5,none⟩]) .ret) .skip)) (.seq (.region [⟨.load (some 6),[.loc 4],none,none⟩,⟨.mov,[.loc 2],none,none⟩,
 ⟨.call 159,[.tmp 0,.tmp 1],none,none⟩,⟨.mov,[.tmp 2],some 8,none⟩]) (.seq (.region [⟨.mov,[.loc 1],none,none⟩,⟨.mov,[.loc 8],none,none⟩,⟨.call 24,[.tmp 0,.tmp 1],none,none⟩,⟨.mov,[.tmp 2],some 9,none⟩]) (.seq (.region [⟨.mov,[.loc 1],none,none⟩,⟨.mov,[.loc 8],none,none⟩,⟨.mov,[.loc 9],none,none⟩,
 ⟨.shf .shr,[.tmp 2,.c (.int .u64 32)],none,none⟩,⟨.conv .u32,[.tmp 3],none,none⟩,⟨.mov,[.loc 7],none,none⟩,⟨.conv .u32,[.tmp 5],none,none⟩,⟨.bin .add,[.tmp 4,.tmp 6],none,none⟩,⟨.conv .u64,[.tmp 7],none,none⟩,⟨.shf .shl,[.tmp 8,.c (.int .u64 32)],none,none⟩,⟨.mov,[.loc 9],none,none⟩,
 ⟨.conv .u32,[.tmp 10],none,none⟩,⟨.conv .u64,[.tmp 11],none,none⟩,⟨.bin .or,[.tmp 9,.tmp 12],none,none⟩,⟨.call 22,[.tmp 0,.tmp 1,.tmp 13],none,none⟩]) (.seq (.region [⟨.mov,[.loc 6],none,none⟩,⟨.mov,[.loc 7],none,none⟩,⟨.slice 1 false true false,[.tmp 0,.tmp 1],none,none⟩,
 ⟨.mov,[.tmp 2],some 5,none⟩]) .ret))))))))}
def kit_SameInts:AFn:={ nloc:=7,npar:=2,res:=[.loc 2],body:=(.seq (.region [⟨.mov,[.c (.bool false)],some 2,none⟩]) (.seq (.seq (.region [⟨.mov,[.loc 0],none,none⟩,⟨.len,[.tmp 0],none,none⟩,⟨.mov,[.loc 1],none,none⟩,⟨.len,[.tmp 2],none,none⟩,
 ⟨.bin .neq,[.tmp 1,.tmp 3],some 4,none⟩]) (.cond (.loc 4) (.seq (.region [⟨.mov,[.c (.bool false)],some 2,none⟩]) .ret) .skip)) (.seq (.seq (.region [⟨.mov,[.c (.int .i64 0)],some 3,none⟩]) (.block 0 (.loop (.seq (.seq (.region [⟨.mov,[.loc 3],none,none⟩,⟨.mov,[.loc 0],none,none⟩,
 ⟨.len,[.tmp 1],none,none⟩,⟨.bin .lss,[.tmp 0,.tmp 2],some 5,none⟩]) (.cond (.loc 5) .skip (.exit 0))) (.seq (.block 1 (.seq (.region [⟨.mov,[.loc 0],none,none⟩,⟨.mov,[.loc 3],none,none⟩,⟨.iaddr 1 none,[.tmp 0,.tmp 1],none,none⟩,⟨.load none,[.tmp 2],none,none⟩,⟨.mov,[.loc 1],none,none⟩,
 ⟨.mov,[.loc 3],none,none⟩,⟨.iaddr 1 none,[.tmp 4,.tmp 5],none,none⟩,⟨.load none,[.tmp 6],none,none⟩,⟨.bin .neq,[.tmp 3,.tmp 7],some 6,none⟩]) (.cond (.loc 6) (.seq (.region [⟨.mov,[.c (.bool false)],some 2,none⟩]) .ret) .skip))) (.region [⟨.mov,[.loc 3],none,none⟩,
 ⟨.bin .add,[.tmp 0,.c (.int .i64 1)],none,none⟩,⟨.mov,[.tmp 1],some 3,none⟩])))))) (.seq (.region [⟨.mov,[.c (.bool true)],some 2,none⟩]) .ret))))}
def docs_Config:AFn:={ nloc:=3,npar:=1,res:=[.cell 2 (some 6)],body:=(.seq (.region [⟨.box,[.loc 0],some 1,none⟩,⟨.alloc [.int .i64 0,.int .i64 0,.int .i64 0,.int .i64 0,.int .i64 0,.int .i64 0],[],some 2,none⟩]) (.seq (.region [⟨.faddr 0,[.loc 1],none,none⟩,⟨.load none,[.tmp 0],none,none⟩,
 ⟨.faddr 1,[.loc 1],none,none⟩,⟨.load none,[.tmp 2],none,none⟩,⟨.faddr 2,[.loc 1],none,none⟩,⟨.load none,[.tmp 4],none,none⟩,⟨.faddr 3,[.loc 1],none,none⟩,⟨.load none,[.tmp 6],none,none⟩,⟨.faddr 4,[.loc 1],none,none⟩,⟨.load none,[.tmp 8],none,none⟩,⟨.faddr 5,[.loc 1],none,none⟩,
 ⟨.load none,[.tmp 10],none,none⟩,⟨.build [.int .i64 0,.int .i64 0,.int .i64 0,.int .i64 0,.int .i64 0,.int .i64 0] [(0,1),(1,1),(2,1),(3,1),(4,1),(5,1)],[.tmp 1,.tmp 3,.tmp 5,.tmp 7,.tmp 9,.tmp 11],none,none⟩,⟨.store 6,[.loc 2,.tmp 12],none,none⟩]) .ret))}
def docs_SameMem:AFn:={ nloc:=4,npar:=2,res:=[.loc 3],body:=(.seq (.region [⟨.box,[.loc 1],some 2,none⟩,⟨.mov,[.c (.bool false)],some 3,none⟩]) (.seq (.draw [0,1,2,3,4,5,6,7,8,9,10,11,12,13,14,15,16,17,18,19,20] 0 [⟨.mov,[.loc 0],none,none⟩,⟨.call 34,[.tmp 0],none,none⟩,⟨.faddr 0,[.loc 2],none,none⟩,
 ⟨.load none,[.tmp 2],none,none⟩,⟨.len,[.tmp 3],none,none⟩,⟨.bin .eql,[.tmp 1,.tmp 4],none,none⟩,⟨.mov,[.tmp 5],none,none⟩,⟨.mov,[.loc 0],none,some (6,true)⟩,⟨.call 46,[.tmp 7],none,some (6,true)⟩,⟨.faddr 1,[.loc 2],none,some (6,true)⟩,⟨.load none,[.tmp 9],none,some (6,true)⟩,
 ⟨.bin .eql,[.tmp 8,.tmp 10],none,some (6,true)⟩,⟨.pick,[.tmp 6,.tmp 11,.c (.bool false)],none,none⟩,⟨.mov,[.tmp 12],none,none⟩,⟨.mov,[.loc 0],none,some (13,true)⟩,⟨.call 47,[.tmp 14],none,some (13,true)⟩,⟨.faddr 0,[.loc 2],none,some (13,true)⟩,⟨.load none,[.tmp 16],none,some (13,true)⟩,
 ⟨.call 58,[.tmp 15,.tmp 17],none,some (13,true)⟩,⟨.pick,[.tmp 13,.tmp 18,.c (.bool false)],none,none⟩,⟨.mov,[.tmp 19],some 3,none⟩] [(3,[0]),(10,[2]),(17,[9])]) .ret))}
def ref06_Store:AFn:={ nloc:=6,npar:=3,res:=[.cell 4 (some 2)],body:=(.seq (.region [⟨.box,[.loc 0],some 3,none⟩,⟨.alloc [.nils,.int .u64 0],[],some 4,none⟩]) (.seq (.seq (.region [⟨.load (some 2),[.loc 3],none,none⟩,⟨.mov,[.loc 1],none,none⟩,⟨.call 72,[.tmp 0,.tmp 1],none,none⟩,
 ⟨.not,[.tmp 2],some 5,none⟩]) (.cond (.loc 5) (.seq (.region [⟨.load (some 2),[.loc 3],none,none⟩,⟨.store 2,[.loc 4,.tmp 0],none,none⟩]) .ret) .skip)) (.seq (.region [⟨.load (some 2),[.loc 3],none,none⟩,⟨.mov,[.loc 1],none,none⟩,⟨.mov,[.loc 2],none,none⟩,⟨.call 73,[.tmp 0,.tmp 1,.tmp 2],none,none⟩,
 ⟨.store 2,[.loc 4,.tmp 3],none,none⟩]) .ret)))}
def ref06_New:AFn:={ nloc:=2,npar:=1,res:=[.cell 1 (some 2)],body:=(.seq (.region [⟨.alloc [.nils,.int .u64 0],[],some 1,none⟩]) (.seq (.region [⟨.mov,[.loc 0],none,none⟩,⟨.min,[.tmp 0,.c (.int .i64 65536)],none,none⟩,⟨.max,[.c (.int .i64 0),.tmp 1],none,none⟩,
 ⟨.make 1 8 [.int .u64 0],[.tmp 2,.tmp 2],none,none⟩,⟨.build [.nils,.int .u64 0] [(0,1)],[.tmp 3],none,none⟩,⟨.store 2,[.loc 1,.tmp 4],none,none⟩]) .ret))}
def conf_Config_Cells:AFn:={ nloc:=4,npar:=1,res:=[.loc 2],body:=(.seq (.region [⟨.box,[.loc 0],some 1,none⟩,⟨.mov,[.c (.int .i64 0)],some 2,none⟩]) (.seq (.seq (.region [⟨.load (some 6),[.loc 1],none,none⟩,⟨.call 157,[.tmp 0],none,none⟩,⟨.not,[.tmp 1],some 3,none⟩]) (.cond (.loc 3) (.seq (.region [
 ⟨.mov,[.c (.int .i64 0)],some 2,none⟩]) .ret) .skip)) (.seq (.region [⟨.faddr 0,[.loc 1],none,none⟩,⟨.load none,[.tmp 0],none,none⟩,⟨.faddr 1,[.loc 1],none,none⟩,⟨.load none,[.tmp 2],none,none⟩,⟨.bin .add,[.c (.int .i64 6),.tmp 3],none,none⟩,⟨.bin .mul,[.tmp 1,.tmp 4],none,none⟩,
 ⟨.bin .add,[.c (.int .i64 4),.tmp 5],none,none⟩,⟨.mov,[.tmp 6],some 2,none⟩]) .ret)))}
def conf_Config_Right:AFn:={ nloc:=3,npar:=1,res:=[.loc 2],body:=(.seq (.region [⟨.box,[.loc 0],some 1,none⟩,⟨.mov,[.c (.bool false)],some 2,none⟩]) (.seq (.region [⟨.faddr 0,[.loc 1],none,none⟩,⟨.load none,[.tmp 0],none,none⟩,⟨.call 176,[.tmp 1,.c (.int .i64 1),.c (.int .i64 8)],none,none⟩,⟨.mov,[.tmp 2],none,none⟩,
 ⟨.faddr 1,[.loc 1],none,some (3,true)⟩,⟨.load none,[.tmp 4],none,some (3,true)⟩,⟨.call 176,[.tmp 5,.c (.int .i64 2),.c (.int .i64 64)],none,some (3,true)⟩,⟨.pick,[.tmp 3,.tmp 6,.c (.bool false)],none,none⟩,⟨.mov,[.tmp 7],none,none⟩,⟨.faddr 1,[.loc 1],none,some (8,true)⟩,
 ⟨.load none,[.tmp 9],none,some (8,true)⟩,⟨.faddr 1,[.loc 1],none,some (8,true)⟩,⟨.load none,[.tmp 11],none,some (8,true)⟩,⟨.bin .sub,[.tmp 12,.c (.int .i64 1)],none,some (8,true)⟩,⟨.bin .and,[.tmp 10,.tmp 13],none,some (8,true)⟩,⟨.bin .eql,[.tmp 14,.c (.int .i64 0)],none,some (8,true)⟩,
 ⟨.pick,[.tmp 8,.tmp 15,.c (.bool false)],none,none⟩,⟨.mov,[.tmp 16],none,none⟩,⟨.faddr 2,[.loc 1],none,some (17,true)⟩,⟨.load none,[.tmp 18],none,some (17,true)⟩,⟨.call 176,[.tmp 19,.c (.int .i64 1),.c (.int .i64 256)],none,some (17,true)⟩,⟨.pick,[.tmp 17,.tmp 20,.c (.bool false)],none,none⟩,
 ⟨.mov,[.tmp 21],none,none⟩,⟨.faddr 3,[.loc 1],none,some (22,true)⟩,⟨.load none,[.tmp 23],none,some (22,true)⟩,⟨.faddr 0,[.loc 1],none,some (22,true)⟩,⟨.load none,[.tmp 25],none,some (22,true)⟩,⟨.bin .add,[.tmp 26,.c (.int .i64 1)],none,some (22,true)⟩,
 ⟨.call 176,[.tmp 24,.tmp 27,.c (.int .i64 16)],none,some (22,true)⟩,⟨.pick,[.tmp 22,.tmp 28,.c (.bool false)],none,none⟩,⟨.mov,[.tmp 29],none,none⟩,⟨.faddr 4,[.loc 1],none,some (30,true)⟩,⟨.load none,[.tmp 31],none,some (30,true)⟩,
 ⟨.call 176,[.tmp 32,.c (.int .i64 2),.c (.int .i64 200)],none,some (30,true)⟩,⟨.pick,[.tmp 30,.tmp 33,.c (.bool false)],none,none⟩,⟨.mov,[.tmp 34],none,none⟩,⟨.faddr 5,[.loc 1],none,some (35,true)⟩,⟨.load none,[.tmp 36],none,some (35,true)⟩,
 ⟨.call 176,[.tmp 37,.c (.int .i64 0),.c (.int .i64 1000)],none,some (35,true)⟩,⟨.pick,[.tmp 35,.tmp 38,.c (.bool false)],none,none⟩,⟨.mov,[.tmp 39],some 2,none⟩]) .ret))}
def docs_byteAt:AFn:={ nloc:=4,npar:=2,res:=[.loc 2],body:=(.seq (.region [⟨.mov,[.c (.int .i64 0)],some 2,none⟩]) (.seq (.seq (.region [⟨.mov,[.loc 1],none,none⟩,⟨.mov,[.loc 0],none,none⟩,⟨.len,[.tmp 1],none,none⟩,⟨.bin .geq,[.tmp 0,.tmp 2],some 3,none⟩]) (.cond (.loc 3) (.seq (.region [
 ⟨.mov,[.c (.int .i64 0)],some 2,none⟩]) .ret) .skip)) (.seq (.region [⟨.mov,[.loc 0],none,none⟩,⟨.mov,[.loc 1],none,none⟩,⟨.iaddr 1 none,[.tmp 0,.tmp 1],none,none⟩,⟨.load none,[.tmp 2],none,none⟩,⟨.conv .i64,[.tmp 3],none,none⟩,⟨.mov,[.tmp 4],some 2,none⟩]) .ret)))}
def conf_Config_Word:AFn:={ nloc:=4,npar:=2,res:=[.loc 3],body:=(.seq (.region [⟨.box,[.loc 0],some 2,none⟩,⟨.mov,[.c (.int .i64 0)],some 3,none⟩]) (.seq (.region [⟨.load (some 6),[.loc 2],none,none⟩,⟨.mov,[.loc 1],none,none⟩,
 ⟨.build [.int .i64 0,.int .i64 0,.int .i64 0,.int .i64 0,.int .i64 0,.int .i64 0,.int .i64 0] [(0,6),(6,1)],[.tmp 0,.tmp 1],none,none⟩,⟨.call 177,[.tmp 2,.c (.int .i64 0)],none,none⟩,⟨.mov,[.tmp 3],some 3,none⟩]) .ret))}
def conf_Config_Slot:AFn:={ nloc:=6,npar:=3,res:=[.loc 4],body:=(.seq (.region [⟨.box,[.loc 0],some 3,none⟩,⟨.mov,[.c (.int .i64 0)],some 4,none⟩]) (.seq (.seq (.region [⟨.load (some 6),[.loc 3],none,none⟩,⟨.call 157,[.tmp 0],none,none⟩,⟨.not,[.tmp 1],some 5,none⟩]) (.cond (.loc 5) (.seq (.region [
 ⟨.mov,[.c (.int .i64 (-1))],some 4,none⟩]) .ret) .skip)) (.seq (.region [⟨.load (some 6),[.loc 3],none,none⟩,⟨.mov,[.loc 1],none,none⟩,⟨.build [.int .i64 0,.int .i64 0,.int .i64 0,.int .i64 0,.int .i64 0,.int .i64 0,.int .i64 0] [(0,6),(6,1)],[.tmp 0,.tmp 1],none,none⟩,⟨.mov,[.loc 2],none,none⟩,
 ⟨.faddr 1,[.loc 3],none,none⟩,⟨.load none,[.tmp 4],none,none⟩,⟨.conv .u32,[.tmp 5],none,none⟩,⟨.bin .rem,[.tmp 3,.tmp 6],none,none⟩,⟨.conv .i64,[.tmp 7],none,none⟩,⟨.bin .add,[.c (.int .i64 6),.tmp 8],none,none⟩,⟨.call 177,[.tmp 2,.tmp 9],none,none⟩,⟨.mov,[.tmp 10],some 4,none⟩]) .ret)))}
def conf_Config_Next:AFn:={ nloc:=4,npar:=2,res:=[.loc 3],body:=(.seq (.region [⟨.box,[.loc 0],some 2,none⟩,⟨.mov,[.c (.int .i64 0)],some 3,none⟩]) (.seq (.region [⟨.load (some 6),[.loc 2],none,none⟩,⟨.mov,[.loc 1],none,none⟩,
 ⟨.build [.int .i64 0,.int .i64 0,.int .i64 0,.int .i64 0,.int .i64 0,.int .i64 0,.int .i64 0] [(0,6),(6,1)],[.tmp 0,.tmp 1],none,none⟩,⟨.call 177,[.tmp 2,.c (.int .i64 1)],none,none⟩,⟨.mov,[.tmp 3],some 3,none⟩]) .ret))}
def conf_Config_Stat:AFn:={ nloc:=4,npar:=2,res:=[.loc 3],body:=(.seq (.region [⟨.box,[.loc 0],some 2,none⟩,⟨.mov,[.c (.int .i64 0)],some 3,none⟩]) (.seq (.region [⟨.load (some 6),[.loc 2],none,none⟩,⟨.mov,[.loc 1],none,none⟩,
 ⟨.build [.int .i64 0,.int .i64 0,.int .i64 0,.int .i64 0,.int .i64 0,.int .i64 0,.int .i64 0] [(0,6),(6,1)],[.tmp 0,.tmp 1],none,none⟩,⟨.call 177,[.tmp 2,.c (.int .i64 2)],none,none⟩,⟨.mov,[.tmp 3],some 3,none⟩]) .ret))}
def conf_Config_Tick:AFn:={ nloc:=4,npar:=2,res:=[.loc 3],body:=(.seq (.region [⟨.box,[.loc 0],some 2,none⟩,⟨.mov,[.c (.int .i64 0)],some 3,none⟩]) (.seq (.region [⟨.load (some 6),[.loc 2],none,none⟩,⟨.mov,[.loc 1],none,none⟩,
 ⟨.build [.int .i64 0,.int .i64 0,.int .i64 0,.int .i64 0,.int .i64 0,.int .i64 0,.int .i64 0] [(0,6),(6,1)],[.tmp 0,.tmp 1],none,none⟩,⟨.call 177,[.tmp 2,.c (.int .i64 3)],none,none⟩,⟨.mov,[.tmp 3],some 3,none⟩]) .ret))}
def conf_Config_Sys:AFn:={ nloc:=4,npar:=2,res:=[.loc 3],body:=(.seq (.region [⟨.box,[.loc 0],some 2,none⟩,⟨.mov,[.c (.int .i64 0)],some 3,none⟩]) (.seq (.region [⟨.load (some 6),[.loc 2],none,none⟩,⟨.mov,[.loc 1],none,none⟩,
 ⟨.build [.int .i64 0,.int .i64 0,.int .i64 0,.int .i64 0,.int .i64 0,.int .i64 0,.int .i64 0] [(0,6),(6,1)],[.tmp 0,.tmp 1],none,none⟩,⟨.call 177,[.tmp 2,.c (.int .i64 4)],none,none⟩,⟨.mov,[.tmp 3],some 3,none⟩]) .ret))}
def conf_Config_Flag:AFn:={ nloc:=4,npar:=2,res:=[.loc 3],body:=(.seq (.region [⟨.box,[.loc 0],some 2,none⟩,⟨.mov,[.c (.int .i64 0)],some 3,none⟩]) (.seq (.region [⟨.load (some 6),[.loc 2],none,none⟩,⟨.mov,[.loc 1],none,none⟩,
 ⟨.build [.int .i64 0,.int .i64 0,.int .i64 0,.int .i64 0,.int .i64 0,.int .i64 0,.int .i64 0] [(0,6),(6,1)],[.tmp 0,.tmp 1],none,none⟩,⟨.call 177,[.tmp 2,.c (.int .i64 5)],none,none⟩,⟨.mov,[.tmp 3],some 3,none⟩]) .ret))}
def ref09_There:AFn:={ nloc:=4,npar:=2,res:=[.loc 3],body:=(.seq (.region [⟨.box,[.loc 0],some 2,none⟩,⟨.mov,[.c (.bool false)],some 3,none⟩]) (.seq (.region [⟨.load (some 6),[.loc 2],none,none⟩,⟨.call 181,[.tmp 0],none,none⟩,⟨.mov,[.tmp 1],none,none⟩,⟨.mov,[.loc 1],none,some (2,true)⟩,
 ⟨.bin .geq,[.tmp 3,.c (.int .i64 0)],none,some (2,true)⟩,⟨.pick,[.tmp 2,.tmp 4,.c (.bool false)],none,none⟩,⟨.mov,[.tmp 5],none,none⟩,⟨.mov,[.loc 1],none,some (6,true)⟩,⟨.faddr 0,[.loc 2],none,some (6,true)⟩,⟨.load none,[.tmp 8],none,some (6,true)⟩,⟨.bin .lss,[.tmp 7,.tmp 9],none,some (6,true)⟩,
 ⟨.pick,[.tmp 6,.tmp 10,.c (.bool false)],none,none⟩,⟨.mov,[.tmp 11],some 3,none⟩]) .ret))}
def ref09_Head:AFn:={ nloc:=2,npar:=1,res:=[.loc 1],body:=(.seq (.region [⟨.mov,[.c (.int .u32 0)],some 1,none⟩]) (.seq (.region [⟨.mov,[.loc 0],none,none⟩,⟨.bin .quo,[.tmp 0,.c (.int .u64 4294967296)],none,none⟩,⟨.conv .u32,[.tmp 1],none,none⟩,⟨.mov,[.tmp 2],some 1,none⟩]) .ret))}
def ref09_Tail:AFn:={ nloc:=2,npar:=1,res:=[.loc 1],body:=(.seq (.region [⟨.mov,[.c (.int .u32 0)],some 1,none⟩]) (.seq (.region [⟨.mov,[.loc 0],none,none⟩,⟨.bin .rem,[.tmp 0,.c (.int .u64 4294967296)],none,none⟩,⟨.conv .u32,[.tmp 1],none,none⟩,⟨.mov,[.tmp 2],some 1,none⟩]) .ret))}
def ref09_Word:AFn:={ nloc:=4,npar:=2,res:=[.loc 3],body:=(.seq (.region [⟨.box,[.loc 0],some 2,none⟩,⟨.mov,[.c (.int .i64 0)],some 3,none⟩]) (.seq (.region [⟨.mov,[.loc 1],none,none⟩,⟨.faddr 1,[.loc 2],none,none⟩,⟨.load none,[.tmp 1],none,none⟩,⟨.bin .add,[.c (.int .i64 6),.tmp 2],none,none⟩,
 ⟨.bin .mul,[.tmp 0,.tmp 3],none,none⟩,⟨.bin .add,[.c (.int .i64 4),.tmp 4],none,none⟩,⟨.mov,[.tmp 5],some 3,none⟩]) .ret))}
def ref09_Size:AFn:={ nloc:=2,npar:=1,res:=[.loc 1],body:=(.seq (.region [⟨.mov,[.c (.int .u32 0)],some 1,none⟩]) (.seq (.region [⟨.mov,[.loc 0],none,none⟩,⟨.call 171,[.tmp 0],none,none⟩,⟨.mov,[.loc 0],none,none⟩,⟨.call 170,[.tmp 2],none,none⟩,⟨.bin .sub,[.tmp 1,.tmp 3],none,none⟩,
 ⟨.mov,[.tmp 4],some 1,none⟩]) .ret))}
def ref09_Slot:AFn:={ nloc:=5,npar:=3,res:=[.loc 4],body:=(.seq (.region [⟨.box,[.loc 0],some 3,none⟩,⟨.mov,[.c (.int .i64 0)],some 4,none⟩]) (.seq (.draw [0,1,2,3,4,5,6,7,8,9,10,11] 0 [⟨.load (some 6),[.loc 3],none,none⟩,⟨.mov,[.loc 1],none,none⟩,⟨.call 172,[.tmp 0,.tmp 1],none,none⟩,
 ⟨.bin .add,[.tmp 2,.c (.int .i64 6)],none,none⟩,⟨.mov,[.loc 2],none,none⟩,⟨.faddr 1,[.loc 3],none,none⟩,⟨.load none,[.tmp 5],none,none⟩,⟨.conv .u32,[.tmp 6],none,none⟩,⟨.bin .rem,[.tmp 4,.tmp 7],none,none⟩,⟨.conv .i64,[.tmp 8],none,none⟩,⟨.bin .add,[.tmp 3,.tmp 9],none,none⟩,
 ⟨.mov,[.tmp 10],some 4,none⟩] [(6,[0])]) .ret))}
def ref09_Pack:AFn:={ nloc:=3,npar:=2,res:=[.loc 2],body:=(.seq (.region [⟨.mov,[.c (.int .u64 0)],some 2,none⟩]) (.seq (.region [⟨.mov,[.loc 0],none,none⟩,⟨.conv .u64,[.tmp 0],none,none⟩,⟨.bin .mul,[.tmp 1,.c (.int .u64 4294967296)],none,none⟩,⟨.mov,[.loc 1],none,none⟩,⟨.conv .u64,[.tmp 3],none,none⟩,
 ⟨.bin .add,[.tmp 2,.tmp 4],none,none⟩,⟨.mov,[.tmp 5],some 2,none⟩]) .ret))}
def ref06_there:AFn:={ nloc:=4,npar:=2,res:=[.loc 3],body:=(.seq (.region [⟨.box,[.loc 0],some 2,none⟩,⟨.mov,[.c (.bool false)],some 3,none⟩]) (.seq (.region [⟨.mov,[.loc 1],none,none⟩,⟨.bin .geq,[.tmp 0,.c (.int .i64 0)],none,none⟩,⟨.mov,[.tmp 1],none,none⟩,⟨.mov,[.loc 1],none,some (2,true)⟩,
 ⟨.faddr 0,[.loc 2],none,some (2,true)⟩,⟨.load none,[.tmp 4],none,some (2,true)⟩,⟨.len,[.tmp 5],none,some (2,true)⟩,⟨.bin .lss,[.tmp 3,.tmp 6],none,some (2,true)⟩,⟨.pick,[.tmp 2,.tmp 7,.c (.bool false)],none,none⟩,⟨.mov,[.tmp 8],some 3,none⟩]) .ret))}
def ref06_with:AFn:={ nloc:=6,npar:=3,res:=[.cell 4 (some 2)],body:=(.seq (.region [⟨.box,[.loc 0],some 3,none⟩,⟨.alloc [.nils,.int .u64 0],[],some 4,none⟩]) (.seq (.region [⟨.mov,[.c (.nils)],some 5,none⟩]) (.seq (.region [⟨.mov,[.loc 5],none,none⟩,⟨.faddr 0,[.loc 3],none,none⟩,⟨.load none,[.tmp 1],none,none⟩,
 ⟨.append 1 8,[.tmp 0,.tmp 2],none,none⟩,⟨.mov,[.tmp 3],some 5,none⟩]) (.seq (.region [⟨.mov,[.loc 5],none,none⟩,⟨.mov,[.loc 1],none,none⟩,⟨.mov,[.loc 2],none,none⟩,⟨.iaddr 1 none,[.tmp 0,.tmp 1],none,none⟩,⟨.store 1,[.tmp 3,.tmp 2],none,none⟩]) (.seq (.region [⟨.mov,[.loc 5],none,none⟩,
 ⟨.faddr 1,[.loc 3],none,none⟩,⟨.load none,[.tmp 1],none,none⟩,⟨.bin .add,[.tmp 2,.c (.int .u64 1)],none,none⟩,⟨.build [.nils,.int .u64 0] [(0,1),(1,1)],[.tmp 0,.tmp 3],none,none⟩,⟨.store 2,[.loc 4,.tmp 4],none,none⟩]) .ret)))))}
def conf_within:AFn:={ nloc:=4,npar:=3,res:=[.loc 3],body:=(.seq (.region [⟨.mov,[.c (.bool false)],some 3,none⟩]) (.seq (.region [⟨.mov,[.loc 0],none,none⟩,⟨.mov,[.loc 1],none,none⟩,⟨.bin .geq,[.tmp 0,.tmp 1],none,none⟩,⟨.mov,[.tmp 2],none,none⟩,⟨.mov,[.loc 0],none,some (3,true)⟩,
 ⟨.mov,[.loc 2],none,some (3,true)⟩,⟨.bin .leq,[.tmp 4,.tmp 5],none,some (3,true)⟩,⟨.pick,[.tmp 3,.tmp 6,.c (.bool false)],none,none⟩,⟨.mov,[.tmp 7],some 3,none⟩]) .ret))}
def conf_own_at:AFn:={ nloc:=5,npar:=2,res:=[.loc 3],body:=(.seq (.region [⟨.box,[.loc 0],some 2,none⟩,⟨.mov,[.c (.int .i64 0)],some 3,none⟩]) (.seq (.seq (.region [⟨.faddr 0,[.loc 2],none,none⟩,⟨.load (some 6),[.tmp 0],none,none⟩,⟨.call 157,[.tmp 1],none,none⟩,⟨.not,[.tmp 2],none,none⟩,
 ⟨.mov,[.tmp 3],none,none⟩,⟨.faddr 6,[.loc 2],none,some (4,false)⟩,⟨.load none,[.tmp 5],none,some (4,false)⟩,⟨.faddr 0,[.loc 2],none,some (4,false)⟩,⟨.faddr 0,[.tmp 7],none,some (4,false)⟩,⟨.load none,[.tmp 8],none,some (4,false)⟩,⟨.bin .sub,[.tmp 9,.c (.int .i64 1)],none,some (4,false)⟩,
 ⟨.call 176,[.tmp 6,.c (.int .i64 0),.tmp 10],none,some (4,false)⟩,⟨.not,[.tmp 11],none,some (4,false)⟩,⟨.pick,[.tmp 4,.c (.bool true),.tmp 12],some 4,none⟩]) (.cond (.loc 4) (.seq (.region [⟨.mov,[.c (.int .i64 (-1))],some 3,none⟩]) .ret) .skip)) (.seq (.region [⟨.faddr 6,[.loc 2],none,none⟩,
 ⟨.load none,[.tmp 0],none,none⟩,⟨.faddr 0,[.loc 2],none,none⟩,⟨.faddr 1,[.tmp 2],none,none⟩,⟨.load none,[.tmp 3],none,none⟩,⟨.bin .add,[.c (.int .i64 6),.tmp 4],none,none⟩,⟨.bin .mul,[.tmp 1,.tmp 5],none,none⟩,⟨.bin .add,[.c (.int .i64 4),.tmp 6],none,none⟩,⟨.mov,[.loc 1],none,none⟩,
 ⟨.bin .add,[.tmp 7,.tmp 8],none,none⟩,⟨.mov,[.tmp 9],some 3,none⟩]) .ret)))}
def word_Len:AFn:={ nloc:=2,npar:=1,res:=[.loc 1],body:=(.seq (.region [⟨.mov,[.c (.int .u32 0)],some 1,none⟩]) (.seq (.region [⟨.mov,[.loc 0],none,none⟩,⟨.call 182,[.tmp 0],none,none⟩,⟨.mov,[.loc 0],none,none⟩,⟨.call 179,[.tmp 2],none,none⟩,⟨.bin .sub,[.tmp 1,.tmp 3],none,none⟩,
 ⟨.mov,[.tmp 4],some 1,none⟩]) .ret))}
def word_Head:AFn:={ nloc:=2,npar:=1,res:=[.loc 1],body:=(.seq (.region [⟨.mov,[.c (.int .u32 0)],some 1,none⟩]) (.seq (.region [⟨.mov,[.loc 0],none,none⟩,⟨.shf .shr,[.tmp 0,.c (.int .u64 32)],none,none⟩,⟨.conv .u32,[.tmp 1],none,none⟩,⟨.mov,[.tmp 2],some 1,none⟩]) .ret))}
def ref05_Right:AFn:={ nloc:=6,npar:=1,res:=[.loc 2],body:=(.seq (.region [⟨.box,[.loc 0],some 1,none⟩,⟨.mov,[.c (.bool false)],some 2,none⟩]) (.seq (.region [⟨.mov,[.c (.bool false)],some 3,none⟩]) (.seq (.seq (.region [⟨.mov,[.c (.int .i64 2)],some 4,none⟩]) (.block 0 (.loop (.seq (.seq (.region [
 ⟨.mov,[.loc 4],none,none⟩,⟨.bin .leq,[.tmp 0,.c (.int .i64 64)],some 5,none⟩]) (.cond (.loc 5) .skip (.exit 0))) (.seq (.block 1 (.region [⟨.mov,[.loc 3],none,none⟩,⟨.mov,[.tmp 0],none,none⟩,⟨.faddr 1,[.loc 1],none,some (1,false)⟩,⟨.load none,[.tmp 2],none,some (1,false)⟩,
 ⟨.mov,[.loc 4],none,some (1,false)⟩,⟨.bin .eql,[.tmp 3,.tmp 4],none,some (1,false)⟩,⟨.pick,[.tmp 1,.c (.bool true),.tmp 5],none,none⟩,⟨.mov,[.tmp 6],some 3,none⟩])) (.region [⟨.mov,[.loc 4],none,none⟩,⟨.bin .mul,[.tmp 0,.c (.int .i64 2)],none,none⟩,⟨.mov,[.tmp 1],some 4,none⟩])))))) (.seq (.region [
 ⟨.mov,[.loc 3],none,none⟩,⟨.mov,[.tmp 0],none,none⟩,⟨.faddr 0,[.loc 1],none,some (1,true)⟩,⟨.load none,[.tmp 2],none,some (1,true)⟩,⟨.bin .geq,[.tmp 3,.c (.int .i64 1)],none,some (1,true)⟩,⟨.pick,[.tmp 1,.tmp 4,.c (.bool false)],none,none⟩,⟨.mov,[.tmp 5],none,none⟩,
 ⟨.faddr 0,[.loc 1],none,some (6,true)⟩,⟨.load none,[.tmp 7],none,some (6,true)⟩,⟨.bin .leq,[.tmp 8,.c (.int .i64 8)],none,some (6,true)⟩,⟨.pick,[.tmp 6,.tmp 9,.c (.bool false)],none,none⟩,⟨.mov,[.tmp 10],none,none⟩,⟨.faddr 2,[.loc 1],none,some (11,true)⟩,⟨.load none,[.tmp 12],none,some (11,true)⟩,
 ⟨.bin .geq,[.tmp 13,.c (.int .i64 1)],none,some (11,true)⟩,⟨.pick,[.tmp 11,.tmp 14,.c (.bool false)],none,none⟩,⟨.mov,[.tmp 15],none,none⟩,⟨.faddr 2,[.loc 1],none,some (16,true)⟩,⟨.load none,[.tmp 17],none,some (16,true)⟩,⟨.bin .leq,[.tmp 18,.c (.int .i64 256)],none,some (16,true)⟩,
 ⟨.pick,[.tmp 16,.tmp 19,.c (.bool false)],none,none⟩,⟨.mov,[.tmp 20],none,none⟩,⟨.faddr 3,[.loc 1],none,some (21,true)⟩,⟨.load none,[.tmp 22],none,some (21,true)⟩,⟨.faddr 0,[.loc 1],none,some (21,true)⟩,⟨.load none,[.tmp 24],none,some (21,true)⟩,⟨.bin .gtr,[.tmp 23,.tmp 25],none,some (21,true)⟩,
 ⟨.pick,[.tmp 21,.tmp 26,.c (.bool false)],none,none⟩,⟨.mov,[.tmp 27],none,none⟩,⟨.faddr 3,[.loc 1],none,some (28,true)⟩,⟨.load none,[.tmp 29],none,some (28,true)⟩,⟨.bin .leq,[.tmp 30,.c (.int .i64 16)],none,some (28,true)⟩,⟨.pick,[.tmp 28,.tmp 31,.c (.bool false)],none,none⟩,
 ⟨.mov,[.tmp 32],none,none⟩,⟨.faddr 4,[.loc 1],none,some (33,true)⟩,⟨.load none,[.tmp 34],none,some (33,true)⟩,⟨.bin .geq,[.tmp 35,.c (.int .i64 2)],none,some (33,true)⟩,⟨.pick,[.tmp 33,.tmp 36,.c (.bool false)],none,none⟩,⟨.mov,[.tmp 37],none,none⟩,⟨.faddr 4,[.loc 1],none,some (38,true)⟩,
 ⟨.load none,[.tmp 39],none,some (38,true)⟩,⟨.bin .leq,[.tmp 40,.c (.int .i64 200)],none,some (38,true)⟩,⟨.pick,[.tmp 38,.tmp 41,.c (.bool false)],none,none⟩,⟨.mov,[.tmp 42],none,none⟩,⟨.faddr 5,[.loc 1],none,some (43,true)⟩,⟨.load none,[.tmp 44],none,some (43,true)⟩,
 ⟨.bin .geq,[.tmp 45,.c (.int .i64 0)],none,some (43,true)⟩,⟨.pick,[.tmp 43,.tmp 46,.c (.bool false)],none,none⟩,⟨.mov,[.tmp 47],none,none⟩,⟨.faddr 5,[.loc 1],none,some (48,true)⟩,⟨.load none,[.tmp 49],none,some (48,true)⟩,⟨.bin .leq,[.tmp 50,.c (.int .i64 1000)],none,some (48,true)⟩,
 ⟨.pick,[.tmp 48,.tmp 51,.c (.bool false)],none,none⟩,⟨.mov,[.tmp 52],some 2,none⟩]) .ret))))}
def word_Tail:AFn:={ nloc:=2,npar:=1,res:=[.loc 1],body:=(.seq (.region [⟨.mov,[.c (.int .u32 0)],some 1,none⟩]) (.seq (.region [⟨.mov,[.loc 0],none,none⟩,⟨.conv .u32,[.tmp 0],none,none⟩,⟨.mov,[.tmp 1],some 1,none⟩]) .ret))}
def word_Pack:AFn:={ nloc:=3,npar:=2,res:=[.loc 2],body:=(.seq (.region [⟨.mov,[.c (.int .u64 0)],some 2,none⟩]) (.seq (.region [⟨.mov,[.loc 0],none,none⟩,⟨.conv .u64,[.tmp 0],none,none⟩,⟨.shf .shl,[.tmp 1,.c (.int .u64 32)],none,none⟩,⟨.mov,[.loc 1],none,none⟩,⟨.conv .u64,[.tmp 3],none,none⟩,
 ⟨.bin .or,[.tmp 2,.tmp 4],none,none⟩,⟨.mov,[.tmp 5],some 2,none⟩]) .ret))}
end Go.Am.F10
end
section
namespace Go.Am.F10
variable {X:Type}
def c_conf_within:AFun X:=amFunc [] conf_within
def c_conf_Config_Right:AFun X:=amFunc [(176,c_conf_within)] conf_Config_Right
def c_conf_Config_Cells:AFun X:=amFunc [(157,c_conf_Config_Right)] conf_Config_Cells
def c_conf_own_at:AFun X:=amFunc [(157,c_conf_Config_Right),(176,c_conf_within)] conf_own_at
def c_conf_Config_Slot:AFun X:=amFunc [(157,c_conf_Config_Right),(177,c_conf_own_at)] conf_Config_Slot
def c_conf_Config_Word:AFun X:=amFunc [(177,c_conf_own_at)] conf_Config_Word
def c_word_Tail:AFun X:=amFunc [] word_Tail
def c_word_Head:AFun X:=amFunc [] word_Head
def c_word_Len:AFun X:=amFunc [(182,c_word_Tail),(179,c_word_Head)] word_Len
def c_word_Pack:AFun X:=amFunc [] word_Pack
def c_kit_SameInts:AFun X:=amFunc [] kit_SameInts
def c_kit_Pick:AFun X:=amFunc [] kit_Pick
def c_docs_Made:AFun X:=amFunc [(87,c_kit_Pick)] docs_Made
def c_docs_byteAt:AFun X:=amFunc [] docs_byteAt
def c_conf_Config_Next:AFun X:=amFunc [(177,c_conf_own_at)] conf_Config_Next
def c_conf_Config_Stat:AFun X:=amFunc [(177,c_conf_own_at)] conf_Config_Stat
def c_conf_Config_Tick:AFun X:=amFunc [(177,c_conf_own_at)] conf_Config_Tick
def c_conf_Config_Sys:AFun X:=amFunc [(177,c_conf_own_at)] conf_Config_Sys
def c_conf_Config_Flag:AFun X:=amFunc [(177,c_conf_own_at)] conf_Config_Flag
def c_docs_Filled:AFun X:=amFunc [(156,c_conf_Config_Cells),(157,c_conf_Config_Right),(158,c_docs_byteAt),(159,c_conf_Config_Word),(160,c_conf_Config_Slot),(161,c_conf_Config_Next),(162,c_conf_Config_Stat),(163,c_conf_Config_Tick),(164,c_conf_Config_Sys),(165,c_conf_Config_Flag)] docs_Filled
def c_ref06_New:AFun X:=amFunc [] ref06_New
def c_ref06_there:AFun X:=amFunc [] ref06_there
def c_ref06_with:AFun X:=amFunc [] ref06_with
def c_ref06_Store:AFun X:=amFunc [(72,c_ref06_there),(73,c_ref06_with)] ref06_Store
def c_docs_Config:AFun X:=amFunc [] docs_Config
def c_ref05_Right:AFun X:=amFunc [] ref05_Right
def c_ref09_There:AFun X:=amFunc [(181,c_ref05_Right)] ref09_There
def c_ref09_Head:AFun X:=amFunc [] ref09_Head
def c_ref09_Tail:AFun X:=amFunc [] ref09_Tail
def c_ref09_Word:AFun X:=amFunc [] ref09_Word
def c_ref09_Size:AFun X:=amFunc [(171,c_ref09_Tail),(170,c_ref09_Head)] ref09_Size
def c_ref09_Slot:AFun X:=amFunc [(172,c_ref09_Word)] ref09_Slot
def c_ref09_Pack:AFun X:=amFunc [] ref09_Pack
end Go.Am.F10
end
section
namespace Go.Am
section
variable {α:Type} {f:α→List AV} {sz:Nat}
theorem rows_len(hf:∀ x,(f x).length=sz):∀ (ws:List α),(ws.flatMap f).length=ws.length * sz
 | []=>by simp
 | x :: xs=>by rw[List.flatMap_cons,List.length_append,hf,rows_len hf xs,List.length_cons,Nat.succ_mul];omega
theorem rows_part(hf:∀ x,(f x).length=sz):∀ {ws:List α} {k:Nat} {x:α},ws[k]?=some x→((ws.flatMap f).drop (k * sz)).take sz=f x
 | [],k,x,h=>by simp at h
 | y :: ys,0,x,h=>by
  simp only[List.getElem?_cons_zero,Option.some.injEq] at h;subst h
  rw[List.flatMap_cons,Nat.zero_mul,List.drop_zero,List.take_left' (hf _)]
 | y :: ys,k+1,x,h=>by
  simp only[List.getElem?_cons_succ] at h
  rw[List.flatMap_cons,Nat.succ_mul,Nat.add_comm,← List.drop_drop,List.drop_left' (hf _)]
  exact rows_part hf h
theorem rows_at(hf:∀ x,(f x).length=sz) {ws:List α} {k:Nat} {x:α} (h:ws[k]?=some x) {o:Nat} (ho:o < sz):(ws.flatMap f)[k * sz+o]?=(f x)[o]?:=by
 rw[← rows_part hf h,List.getElem?_take,if_pos ho,List.getElem?_drop]
theorem rows_one:∀ {f:α→List AV} {ws:List α},(∀ x,(f x).all AV.one=true)→(ws.flatMap f).all AV.one=true
 | f,[],_=>rfl
 | f,x :: xs,h=>by rw[List.flatMap_cons,List.all_append,h x,rows_one h];rfl
section
variable {X:Type} {m:Mem X} {bytes j q n:Nat} {c:Option Nat} {sz':Nat} {ro:Bool} {l x:List AV}
theorem append_nils(hx:m[j]?=some (.cells sz' ro x)) (hl:x.length=sz) (h1:x.all AV.one=true) (hb:bytes≤35184372088832):appendA sz bytes .nils (.sl j 0 1 c) m=some (.sl m.length 0 1 none,m++[.cells sz false x]):=by
 have hr:rowOf m sz (.sl j 0 1 c)=some x:=by
  simp only[rowOf,getC,hx]
  rw[if_neg (by omega),if_pos (by omega),List.drop_zero,List.take_of_length_le (by omega)]
 simp only[appendA,lenA,hr]
 rw[if_neg (by omega),if_pos ⟨by omega,by omega,h1⟩]
theorem append_none(hq:m[q]?=some (.cells sz false l)) (hn:l.length=n * sz) (hx:m[j]?=some (.cells sz' ro x)) (hl:x.length=sz) (h0:l.all AV.one=true) (h1:x.all AV.one=true) (hb:(n+1) * bytes≤35184372088832) (hn1:n+1≤35184372088832) :
  appendA sz bytes (.sl q 0 n none) (.sl j 0 1 c) m=some (.sl m.length 0 (n+1) none,m.set q .dead++[.cells sz false (l++x)]):=by
 have hr:rowOf m sz (.sl j 0 1 c)=some x:=by
  simp only[rowOf,getC,hx]
  rw[if_neg (by omega),if_pos (by omega),List.drop_zero,List.take_of_length_le (by omega)]
 have ht:(l.drop 0).take (n * sz)=l:=by rw[List.drop_zero,List.take_of_length_le (by omega)]
 simp only[appendA,lenA,hr,getC,hq,ht]
 rw[if_neg (by omega),if_pos ⟨trivial,by omega,hb,hn1,by rw[List.all_append,h0,h1];rfl⟩]
end
def Own{X:Type} (m0 m:Mem X) (sz n:Nat) (l:List AV) (lv:AV):Prop:=(n=0∧l=[]∧lv = .nils)∨∃ q,lv = .sl q 0 n none∧m[q]?=some (.cells sz false l)∧m0.length≤q∧q < m.length
section
variable {X:Type} {m0 J:Mem X} {bytes j n:Nat} {c:Option Nat} {sz':Nat} {ro:Bool} {l x:List AV} {lv:AV}
theorem own_nil{m:Mem X}:Own m0 m sz 0 [] .nils:=.inl ⟨rfl,rfl,rfl⟩
theorem own_app(ho:Own m0 (m0++J) sz n l lv) (hl:l.length=n * sz) (h0:l.all AV.one=true) (hx:(m0++J)[j]?=some (.cells sz' ro x)) (hxl:x.length=sz) (h1:x.all AV.one=true) (hb:(n+1) * bytes≤35184372088832) (hn1:n+1≤35184372088832) :
  ∃ q' J',appendA sz bytes lv (.sl j 0 1 c) (m0++J)=some (.sl q' 0 (n+1) none,m0++J')∧Own m0 (m0++J') sz (n+1) (l++x) (.sl q' 0 (n+1) none):=by
 rcases ho with⟨rfl,rfl,rfl⟩|⟨q,rfl,hq,h2,h3⟩
 ·refine⟨_,J++[.cells sz false x],by rw[append_nils hx hxl h1 (by omega),List.append_assoc],.inr ⟨_,rfl,?_,by simp,by simp⟩⟩
  rw[← List.append_assoc,get_concat];rfl
 ·refine⟨_,J.set (q - m0.length) .dead++[.cells sz false (l++x)],by rw[append_none hq hl hx hxl h0 h1 hb hn1,List.set_append_right _ _ h2,List.append_assoc],.inr ⟨_,rfl,?_,by simp,by simp⟩⟩
  rw[← List.append_assoc,← List.set_append_right _ _ h2,List.getElem?_append_right (by simp)]
  simp
end
end
end Go.Am
end
section
namespace Go.Am
section
variable {X:Type}
def Sl(m:Mem X) (wr:Bool) (sz n:Nat) (l:List AV) (v:AV):Prop :=
 l.length=n * sz∧((v = .nils∧n=0)∨∃ q o cap,v = .sl q o n cap∧(0 < n→∃ ro L,m[q]?=some (.cells sz ro L)∧(L.drop o).take (n * sz)=l∧o+n * sz≤L.length∧(wr=true→ro=false)))
def Keep(m m':Mem X):Prop:=m.length≤m'.length∧∀ i,i < m.length→m'[i]?=m[i]?
theorem Keep.refl(m:Mem X):Keep m m:=⟨Nat.le_refl _,fun _ _=>rfl⟩
theorem Keep.trans{m m' m'':Mem X} (h:Keep m m') (k:Keep m' m''):Keep m m'' :=
 ⟨Nat.le_trans h.1 k.1,fun i hi=>(k.2 i (Nat.lt_of_lt_of_le hi h.1)).trans (h.2 i hi)⟩
theorem Keep.app(m J:Mem X):Keep m (m++J):=⟨by simp,fun i hi=>List.getElem?_append_left hi⟩
theorem Keep.set{m m':Mem X} (h:Keep m m') {q:Nat} (hq:m.length≤q) (c:Chunk X):Keep m (m'.set q c) :=
 ⟨by simpa using h.1,fun i hi=>by rw[List.getElem?_set_ne (by omega)];exact h.2 i hi⟩
theorem Keep.get{m m':Mem X} (h:Keep m m') {i:Nat} {c:Chunk X} (hi:m[i]?=some c):m'[i]?=some c:=(h.2 i (List.getElem?_eq_some_iff.1 hi).1).trans hi
theorem Sl.keep{m m':Mem X} {wr:Bool} {sz n:Nat} {l:List AV} {v:AV} (h:Sl m wr sz n l v) (k:Keep m m'):Sl m' wr sz n l v:=by
 obtain⟨h0,h⟩:=h
 refine⟨h0,?_⟩
 rcases h with h|⟨q,o,cap,h1,h2⟩
 ·exact .inl h
 ·refine .inr ⟨q,o,cap,h1,fun hn=>?_⟩
  obtain⟨ro,L,h3,h4⟩:=h2 hn
  exact⟨ro,L,k.get h3,h4⟩
theorem Sl.ro{m:Mem X} {wr:Bool} {sz n:Nat} {l:List AV} {v:AV} (h:Sl m wr sz n l v):Sl m false sz n l v:=by
 obtain⟨h0,h⟩:=h
 refine⟨h0,?_⟩
 rcases h with h|⟨q,o,cap,h1,h2⟩
 ·exact .inl h
 ·refine .inr ⟨q,o,cap,h1,fun hn=>?_⟩
  obtain⟨ro,L,h3,h4,h5,_⟩:=h2 hn
  exact⟨ro,L,h3,h4,h5,fun h=>by cases h⟩
theorem Sl.len{m:Mem X} {wr:Bool} {sz n:Nat} {l:List AV} {v:AV} (h:Sl m wr sz n l v):lenA v=some n:=by
 rcases h.2 with⟨h1,rfl⟩|⟨q,o,cap,h1,_⟩<;>rw[h1]<;>rfl
theorem Sl.nil{m:Mem X} {wr:Bool} {sz:Nat}:Sl m wr sz 0 [] .nils:=⟨by simp,.inl ⟨rfl,rfl⟩⟩
theorem Sl.at{m:Mem X} {wr:Bool} {sz n:Nat} {l:List AV} {v:AV} (h:Sl m wr sz n l v) (hn:0 < n):∃ q o cap ro L,v = .sl q o n cap∧m[q]?=some (.cells sz ro L)∧(L.drop o).take (n * sz)=l∧o+n * sz≤L.length∧(wr=true→ro=false):=by
 rcases h.2 with⟨_,h1⟩|⟨q,o,cap,h1,h2⟩
 ·omega
 ·obtain⟨ro,L,h3⟩:=h2 hn
  exact⟨q,o,cap,ro,L,h1,h3⟩
theorem sl_get{L l:List AV} {o k:Nat} (h:(L.drop o).take k=l) {j:Nat} (hj:j < k):L[o+j]?=l[j]?:=by
 rw[← h,List.getElem?_take,if_pos hj,List.getElem?_drop]
theorem ev_len(G:List (Nat × AFun X)) (v:AV) (m:Mem X):amOp G .len [v] m=match lenA v with|some n=>some (.int .i64 n,m)|none=>none:=by
 simp only[amOp]
 cases lenA v<;>rfl
def Fr(n0:Nat) (v:AV):Prop:=v = .nils∨∃ q o n cap,v = .sl q o n cap∧n0≤q
theorem Own.sl{m0 m:Mem X} {sz n:Nat} {l:List AV} {v:AV} (h:Own m0 m sz n l v) (hl:l.length=n * sz):Sl m true sz n l v∧Fr m0.length v:=by
 rcases h with⟨rfl,rfl,rfl⟩|⟨q,rfl,h1,h2,h3⟩
 ·exact⟨Sl.nil,.inl rfl⟩
 ·exact⟨⟨hl,.inr ⟨q,0,none,rfl,fun _=>⟨false,l,h1,by rw[List.drop_zero,← hl,List.take_length],by omega,fun _=>rfl⟩⟩⟩,.inr ⟨q,0,n,none,rfl,h2⟩⟩
end
end Go.Am
end
section
namespace Go.Am.F10
variable {X:Type}
structure Cf where
 n:Int
 q:Int
 g:Int
 m:Int
 t:Int
 s:Int
def cfC(c:Cf):List AV:=[.int .i64 c.n,.int .i64 c.q,.int .i64 c.g,.int .i64 c.m,.int .i64 c.t,.int .i64 c.s]
def landI(a b:Int):Int:=IntKind.i64.wrap ((BitVec.ofInt 64 a &&& BitVec.ofInt 64 b).toNat:Int)
theorem evAnd(a b:Int):binI .and .i64 a b=some (.int .i64 (landI a b)):=rfl
def roomP(q:Int):Prop:=q=2∨q=4∨q=8∨q=16∨q=32∨q=64
def rightP(c:Cf):Prop:=(1≤c.n∧c.n≤8)∧roomP c.q∧(1≤c.g∧c.g≤256)∧(c.n+1≤c.m∧c.m≤16)∧(2≤c.t∧c.t≤200)∧(0≤c.s∧c.s≤1000)
instance (q:Int):Decidable (roomP q):=by unfold roomP;infer_instance
instance (c:Cf):Decidable (rightP c):=by unfold rightP;infer_instance
theorem land_room{q:Int} (h1:2≤q) (h2:q≤64):landI q (q - 1)=0 ↔ roomP q:=by
 have key:∀ k:Fin 65,2≤k.val→(landI (k.val:Int) ((k.val:Int) - 1)=0 ↔ roomP (k.val:Int)):=by decide +kernel
 have:=key ⟨q.toNat,by omega⟩ (by show 2≤q.toNat;omega)
 simp only at this
 rwa [show ((q.toNat:Nat):Int)=q by omega] at this
def inB(a lo hi:Int):Bool:=decide (lo≤a) && decide (a≤hi)
theorem inB_iff{a lo hi:Int}:inB a lo hi=true ↔ lo≤a∧a≤hi:=by simp[inB]
theorem within_run{G:List (Nat × AFun X)} {m:Mem X} (a lo hi:Int):Fn G conf_within [.int .i64 a,.int .i64 lo,.int .i64 hi] m (fun r m'=>r = .bool (inB a lo hi)∧m'=m):=by
 refine Fn_of rfl ?_
 unfold inB
 simp(disch:=first|assumption|omega|(simp only[zl]<;>omega)|(simp only[zn])) only[conf_within,↓zd,zk,seval,reduceIte,List.map,AV.cells,List.all,AV.one,eqV,eqAll,splice,fillA,List.replicate,resAll,resA]
 repeat' ((first|refine GK_of (fun h=>?_) (fun h=>?_)|refine CW_of (fun h=>?_) (fun h=>?_)|refine GKT_of (fun h=>?_) (fun h=>?_))<;>(try simp only[Bool.not_eq_true',Bool.not_eq_false',decide_eq_true_eq,decide_eq_false_iff_not,Bool.and_eq_true,Bool.or_eq_true,Bool.and_eq_false_iff,Bool.or_eq_false_iff,Decidable.not_not] at h)<;>(try simp(disch:=first|assumption|omega|(simp only[zl]<;>omega)|(simp only[zn])) only[↓zd,zk,seval,reduceIte,List.map,AV.cells,List.all,AV.one,eqV,eqAll,splice,fillA,List.replicate,resAll,resA]))
 all_goals (try simp_all)
def rightB(c:Cf):Bool:=inB c.n 1 8 && (inB c.q 2 64 && (decide (landI c.q (IntKind.i64.wrap (c.q - 1))=0) && (inB c.g 1 256 && (inB c.m (IntKind.i64.wrap (c.n+1)) 16 && (inB c.t 2 200 && inB c.s 0 1000)))))
theorem rightB_eq(c:Cf):rightB c=decide (rightP c):=by
 unfold rightB
 rw[Bool.eq_iff_iff]
 simp only[Bool.and_eq_true,inB_iff,decide_eq_true_eq]
 constructor
 ·rintro⟨h1,h2,h3,h4,h5,h6,h7⟩
  rw[wrapI (by omega) (by omega)] at h3 h5
  exact⟨h1,(land_room h2.1 h2.2).1 h3,h4,h5,h6,h7⟩
 ·rintro⟨h1,h2,h4,h5,h6,h7⟩
  have hq:2≤c.q∧c.q≤64:=by unfold roomP at h2;omega
  rw[wrapI (x:=c.q - 1) (by omega) (by omega),wrapI (x:=c.n+1) (by omega) (by omega)]
  exact⟨h1,hq,(land_room hq.1 hq.2).2 h2,h4,h5,h6,h7⟩
set_option maxHeartbeats 8000000 in
theorem right_run{m:Mem X} (c:Cf):Fn [(176,c_conf_within)] conf_Config_Right [.agg (cfC c)] m (fun r m'=>r = .bool (decide (rightP c))∧m'=m++[.cells 6 false (cfC c)]):=by
 have a176:assoc [(176,c_conf_within (X:=X))] 176=some c_conf_within:=rfl
 generalize [(176,c_conf_within (X:=X))]=G at a176
 have hw:=fun(m:Mem X) a lo hi=>Fn_eq (within_run (G:=[]) (m:=m) a lo hi)
 refine Fn_of rfl ?_
 simp(disch:=first|assumption|omega|(simp only[zl]<;>omega)|(simp only[zn])) only[conf_Config_Right,↓zd,zk,seval,reduceIte,List.map,AV.cells,List.all,AV.one,eqV,eqAll,splice,fillA,List.replicate,resAll,resA,zm,zg,cfC,a176,c_conf_within,hw,evAnd]
 repeat' ((first|refine GK_of (fun h=>?_) (fun h=>?_)|refine CW_of (fun h=>?_) (fun h=>?_)|refine GKT_of (fun h=>?_) (fun h=>?_))<;>(try simp only[Bool.not_eq_true',Bool.not_eq_false',decide_eq_true_eq,decide_eq_false_iff_not,Bool.and_eq_true,Bool.or_eq_true,Bool.and_eq_false_iff,Bool.or_eq_false_iff,Decidable.not_not] at h)<;>(try simp(disch:=first|assumption|omega|(simp only[zl]<;>omega)|(simp only[zn])) only[↓zd,zk,seval,reduceIte,List.map,AV.cells,List.all,AV.one,eqV,eqAll,splice,fillA,List.replicate,resAll,resA,zm,zg,cfC,a176,c_conf_within,hw,evAnd,h]))
 all_goals (rw[← rightB_eq];simp_all[rightB])
def thereP(c:Cf) (p:Int):Prop:=rightP c∧0≤p∧p < c.n
instance (c:Cf) (p:Int):Decidable (thereP c p):=by unfold thereP;infer_instance
def addrA(c:Cf) (p i:Int):Int:=if thereP c p then 4+p * (6+c.q)+i else -1
theorem there_bounds{c:Cf} {p:Int} (h:thereP c p):1≤c.n∧c.n≤8∧2≤c.q∧c.q≤64∧0≤p∧p < 8:=by
 obtain⟨⟨h1,h2,_⟩,h3,h4⟩:=h
 unfold roomP at h2
 omega
theorem mul_bounds{p q:Int} (h1:0≤p) (h2:p < 8) (h3:0≤q) (h4:q≤70):0≤p * q∧p * q≤490:=by
 have h5:p * q≤7 * 70:=Int.mul_le_mul (by omega) h4 h3 (by omega)
 exact⟨Int.mul_nonneg h1 h3,by omega⟩
set_option maxHeartbeats 8000000 in
theorem at_run{m:Mem X} (c:Cf) (p i:Int) (hi:0≤i) (hi2:i≤1000):Fn [(157,c_conf_Config_Right),(176,c_conf_within)] conf_own_at [.agg (cfC c++[.int .i64 p]),.int .i64 i] m
  (fun r m'=>r = .int .i64 (addrA c p i)∧m'=m++[.cells 7 false (cfC c++[.int .i64 p]),.cells 6 false (cfC c)]):=by
 have a157:assoc [(157,c_conf_Config_Right (X:=X)),(176,c_conf_within)] 157=some c_conf_Config_Right:=rfl
 have a176:assoc [(157,c_conf_Config_Right (X:=X)),(176,c_conf_within)] 176=some c_conf_within:=rfl
 have hR:∀ m:Mem X,c_conf_Config_Right [.agg (cfC c)] m=some (.bool (decide (rightP c)),m++[.cells 6 false (cfC c)]):=fun m=>Fn_eq (right_run c)
 generalize [(157,c_conf_Config_Right (X:=X)),(176,c_conf_within)]=G at a157 a176
 have hw:=fun(m:Mem X) a lo hi=>Fn_eq (within_run (G:=[]) (m:=m) a lo hi)
 simp only[cfC] at hR
 refine Fn_of rfl ?_
 by_cases hr:rightP c
 ·rw[decide_eq_true hr] at hR
  have hn:1≤c.n∧c.n≤8:=hr.1
  have hin:inB p 0 (c.n - 1)=decide (0≤p∧p < c.n):=by
   rw[Bool.eq_iff_iff,inB_iff,decide_eq_true_eq];omega
  by_cases hp:0≤p∧p < c.n
  ·have ht:thereP c p:=⟨hr,hp⟩
   have hb:=there_bounds ht
   have hm:=mul_bounds hp.1 hb.2.2.2.2.2 (q:=6+c.q) (by omega) (by omega)
   rw[decide_eq_true hp] at hin
   simp(disch:=first|assumption|omega|(simp only[zl]<;>omega)|(simp only[zn])) only[conf_own_at,↓zd,zk,seval,reduceIte,List.map,AV.cells,List.all,AV.one,eqV,eqAll,splice,fillA,List.replicate,resAll,resA,zm,zg,cfC,a157,hR,a176,c_conf_within,hw,hin]
   rw[addrA,if_pos ht]
  ·have ht:¬ thereP c p:=fun h=>hp h.2
   rw[decide_eq_false hp] at hin
   simp(disch:=first|assumption|omega|(simp only[zl]<;>omega)|(simp only[zn])) only[conf_own_at,↓zd,zk,seval,reduceIte,List.map,AV.cells,List.all,AV.one,eqV,eqAll,splice,fillA,List.replicate,resAll,resA,zm,zg,cfC,a157,hR,a176,c_conf_within,hw,hin]
   rw[addrA,if_neg ht]
 ·have ht:¬ thereP c p:=fun h=>hr h.1
  rw[decide_eq_false hr] at hR
  simp(disch:=first|assumption|omega|(simp only[zl]<;>omega)|(simp only[zn])) only[conf_own_at,↓zd,zk,seval,reduceIte,List.map,AV.cells,List.all,AV.one,eqV,eqAll,splice,fillA,List.replicate,resAll,resA,zm,zg,cfC,a157,hR]
  rw[addrA,if_neg ht]
theorem at_eq{m:Mem X} (c:Cf) (p i:Int) (hi:0≤i) (hi2:i≤1000):c_conf_own_at [.agg (cfC c++[.int .i64 p]),.int .i64 i] m=some (.int .i64 (addrA c p i),m++[.cells 7 false (cfC c++[.int .i64 p]),.cells 6 false (cfC c)]):=by
 have he:c_conf_own_at (X:=X)=amFunc [(157,c_conf_Config_Right),(176,c_conf_within)] conf_own_at:=rfl
 rw[he]
 exact Fn_eq (at_run c p i hi hi2)
set_option maxHeartbeats 4000000 in
theorem word_run{m:Mem X} (c:Cf) (p:Int):c_conf_Config_Word [.agg (cfC c),.int .i64 p] m=some (.int .i64 (addrA c p 0),m++[.cells 6 false (cfC c),.cells 7 false (cfC c++[.int .i64 p]),.cells 6 false (cfC c)]):=by
 have a177:assoc [(177,c_conf_own_at (X:=X))] 177=some c_conf_own_at:=rfl
 have he:c_conf_Config_Word (X:=X)=amFunc [(177,c_conf_own_at)] conf_Config_Word:=rfl
 have ha:=at_eq (m:=m++[.cells 6 false (cfC c)]) c p 0 (by omega) (by omega)
 rw[he]
 generalize [(177,c_conf_own_at (X:=X))]=G at a177 ⊢
 simp only[cfC,List.append_assoc,List.cons_append,List.nil_append] at ha
 refine Fn_eq (Fn_of rfl ?_)
 simp(disch:=first|assumption|omega|(simp only[zl]<;>omega)|(simp only[zn])) only[conf_Config_Word,↓zd,zk,seval,reduceIte,List.map,AV.cells,List.all,AV.one,eqV,eqAll,splice,fillA,List.replicate,resAll,resA,zm,zg,cfC,a177,ha]
def getC(c:Cf) (p a w seen:Int) (has:Bool) (tries:Int):List AV:=cfC c++[.int .i64 p,.int .i64 a,.int .u64 w,.int .i64 seen,.bool has,.int .i64 tries]
def zeroC:Cf:=⟨0,0,0,0,0,0⟩
theorem pick_run{G:List (Nat × AFun X)} {m:Mem X} (i n:Int) (hn:0 < n) (hn2:n≤100000):Fn G kit_Pick [.int .i64 i,.int .i64 n] m (fun r m'=>r = .int .i64 (i % n)∧m'=m):=by
 refine Fn_of rfl ?_
 have h1:=Int.emod_nonneg i (b:=n) (by omega)
 have h2:=Int.emod_lt_of_pos i hn
 have ht:(IntKind.i64.wrap (i.tmod n+n)).tmod n=i % n:=by
  have h3:-n < i.tmod n∧i.tmod n < n:=by
   refine⟨?_,Int.tmod_lt_of_pos i hn⟩
   have:=Int.tmod_lt_of_pos (-i) hn
   rw[Int.neg_tmod] at this
   omega
  rw[wrapI (by omega) (by omega),Int.tmod_eq_emod_of_nonneg (by omega)]
  have hd:i.tmod n+n=i+n * (1 - i.tdiv n):=by
   have:=Int.mul_tdiv_add_tmod i n
   rw[Int.mul_sub,Int.mul_one];omega
  rw[hd,Int.add_mul_emod_self_left]
 simp(disch:=first|assumption|omega|(simp only[zl]<;>omega)|(simp only[zn])) only[kit_Pick,↓zd,zk,seval,reduceIte,List.map,AV.cells,List.all,AV.one,eqV,eqAll,splice,fillA,List.replicate,resAll,resA,zm,zg,ht]
end Go.Am.F10
end
section
namespace Go.Am.F10
variable {X:Type}
end Go.Am.F10
end
section
namespace Go.Am.F10
variable {X:Type}
theorem pick_eq(m:Mem X) (i n:Int) (hn:0 < n) (hn2:n≤100000):c_kit_Pick [.int .i64 i,.int .i64 n] m=some (.int .i64 (i % n),m):=Fn_eq (pick_run i n hn hn2)
def M0L(m:Mem X) (c:Cf) (p:Int):Mem X:=[.cells 6 false (cfC c),.cells 12 false (getC zeroC 0 0 0 0 false 0),.cells 1 false (List.replicate 20 (.int .u64 0)),.cells 8 false [.int .u64 0,.int .u64 0,.int .u64 0,.int .u64 0,.int .u64 0,.int .u64 0,.nils,.sl (m.length+2) 0 20 (some 20)],
 .cells 6 false (cfC c),.cells 6 false (cfC c),.cells 7 false (cfC c++[.int .i64 (-1 - p % 9)]),.cells 6 false (cfC c),.cells 12 false (getC zeroC 0 0 0 0 false 0),.cells 1 false [.nilp,.ptr (m.length+1) 0,.ptr (m.length+4+4) 0]]
def M0(m:Mem X) (c:Cf) (p:Int):Mem X:=m++M0L m c p
end Go.Am.F10
end
section
namespace Go.Am.F10
variable {X:Type}
def W64(w:Int):Prop:=0≤w∧w < 18446744073709551616
def hd(w:Int):Int:=w / 4294967296
def tl(w:Int):Int:=w % 4294967296
def sz(w:Int):Int:=(tl w - hd w) % 4294967296
def pk(h t:Int):Int:=h * 4294967296+t
theorem hd_b{w:Int} (h:W64 w):0≤hd w∧hd w < 4294967296:=by unfold hd;unfold W64 at h;omega
theorem tl_b(w:Int):0≤tl w∧tl w < 4294967296:=by unfold tl;omega
theorem wrap32(z:Int):IntKind.u32.wrap z=z % 4294967296:=by
 simp only[IntKind.wrap,IntKind.bits,IntKind.signed,Bool.false_and];simp
theorem wrap64(z:Int):IntKind.u64.wrap z=z % 18446744073709551616:=by
 simp only[IntKind.wrap,IntKind.bits,IntKind.signed,Bool.false_and];simp
theorem shr_eq{w:Int}:shfI .shr .u64 w 32=some (.int .u64 (w / 4294967296)):=by
 have h1:(Nat.min (32:Int).toNat IntKind.u64.bits)=32:=by decide
 have h2:(2:Int) ^ 32=4294967296:=by decide
 simp only[shfI,h1,h2]
 rw[if_neg (by omega),Int.fdiv_eq_ediv_of_nonneg _ (by omega)]
theorem shl_eq{h:Int}:shfI .shl .u64 h 32=some (.int .u64 (IntKind.u64.wrap (h * 4294967296))):=by
 have h1:(Nat.min (32:Int).toNat IntKind.u64.bits)=32:=by decide
 have h2:(2:Int) ^ 32=4294967296:=by decide
 simp only[shfI,h1,h2]
 rw[if_neg (by omega)]
theorem or_eq{h t:Int} (h0:0≤h) (h1:h < 4294967296) (t0:0≤t) (t1:t < 4294967296):binI .or .u64 (h * 4294967296) t=some (.int .u64 (pk h t)):=by
 obtain⟨a,rfl⟩:∃ a:Nat,h=a:=⟨h.toNat,by omega⟩
 obtain⟨b,rfl⟩:∃ b:Nat,t=b:=⟨t.toNat,by omega⟩
 have e1:((a:Int) * 4294967296)=((a * 4294967296:Nat):Int):=by simp
 have hb:b < 2 ^ 32:=by omega
 have key:(BitVec.ofInt 64 ((a * 4294967296:Nat):Int) ||| BitVec.ofInt 64 (b:Int)).toNat=a * 4294967296+b:=by
  rw[BitVec.toNat_or,BitVec.ofInt_natCast,BitVec.ofInt_natCast,BitVec.toNat_ofNat,BitVec.toNat_ofNat,Nat.mod_eq_of_lt (by omega),Nat.mod_eq_of_lt (by omega)]
  have:=Nat.shiftLeft_add_eq_or_of_lt hb a
  rw[Nat.shiftLeft_eq] at this
  exact this.symm
 show some (AV.int .u64 (IntKind.u64.wrap ((BitVec.ofInt 64 ((a:Int) * 4294967296) ||| BitVec.ofInt 64 (b:Int)).toNat:Int)))=_
 rw[e1,key,wrap64]
 unfold pk
 congr 2
 omega
theorem head_eq(m:Mem X) {w:Int} (h:W64 w):c_word_Head [.int .u64 w] m=some (.int .u32 (hd w),m):=by
 have hw:IntKind.u32.wrap (w / 4294967296)=hd w:=by rw[wrap32];unfold hd W64 at *;omega
 refine Fn_eq (Fn_of rfl ?_)
 simp(disch:=first|assumption|omega|(simp only[zl]<;>omega)|(simp only[zn])) only[word_Head,↓zd,zk,seval,reduceIte,List.map,AV.cells,List.all,AV.one,eqV,eqAll,splice,fillA,List.replicate,resAll,resA,zm,zg,shr_eq,hw]
theorem tail_eq(m:Mem X) (w:Int):c_word_Tail [.int .u64 w] m=some (.int .u32 (tl w),m):=by
 have hw:IntKind.u32.wrap w=tl w:=by rw[wrap32];rfl
 refine Fn_eq (Fn_of rfl ?_)
 simp(disch:=first|assumption|omega|(simp only[zl]<;>omega)|(simp only[zn])) only[word_Tail,↓zd,zk,seval,reduceIte,List.map,AV.cells,List.all,AV.one,eqV,eqAll,splice,fillA,List.replicate,resAll,resA,zm,zg,hw]
theorem len_eq(m:Mem X) {w:Int} (h:W64 w):c_word_Len [.int .u64 w] m=some (.int .u32 (sz w),m):=by
 have a182:assoc [(182,c_word_Tail (X:=X)),(179,c_word_Head)] 182=some c_word_Tail:=rfl
 have a179:assoc [(182,c_word_Tail (X:=X)),(179,c_word_Head)] 179=some c_word_Head:=rfl
 have he:c_word_Len (X:=X)=amFunc [(182,c_word_Tail),(179,c_word_Head)] word_Len:=rfl
 rw[he]
 generalize [(182,c_word_Tail (X:=X)),(179,c_word_Head)]=G at a182 a179 ⊢
 have h1:=head_eq m h
 have h2:=tail_eq m w
 have hw:IntKind.u32.wrap (tl w - hd w)=sz w:=by rw[wrap32];rfl
 refine Fn_eq (Fn_of rfl ?_)
 simp(disch:=first|assumption|omega|(simp only[zl]<;>omega)|(simp only[zn])) only[word_Len,↓zd,zk,seval,reduceIte,List.map,AV.cells,List.all,AV.one,eqV,eqAll,splice,fillA,List.replicate,resAll,resA,zm,zg,a182,a179,h1,h2,hw]
theorem pack_eq(m:Mem X) {h t:Int} (h0:0≤h) (h1:h < 4294967296) (t0:0≤t) (t1:t < 4294967296):c_word_Pack [.int .u32 h,.int .u32 t] m=some (.int .u64 (pk h t),m):=by
 have e1:IntKind.u64.wrap h=h:=wrapU h0 (by omega)
 have e2:IntKind.u64.wrap t=t:=wrapU t0 (by omega)
 have e3:IntKind.u64.wrap (h * 4294967296)=h * 4294967296:=wrapU (by omega) (by omega)
 have e4:=or_eq h0 h1 t0 t1
 refine Fn_eq (Fn_of rfl ?_)
 simp(disch:=first|assumption|omega|(simp only[zl]<;>omega)|(simp only[zn])) only[word_Pack,↓zd,zk,seval,reduceIte,List.map,AV.cells,List.all,AV.one,eqV,eqAll,splice,fillA,List.replicate,resAll,resA,zm,zg,e1,e2,shl_eq,e3,e4]
def gainW(w:Int):Int:=pk ((hd w+1) % 4294967296) (tl w)
theorem rhead_eq(m:Mem X) {w:Int} (h:W64 w):c_ref09_Head [.int .u64 w] m=some (.int .u32 (hd w),m):=by
 have hw:IntKind.u32.wrap (IntKind.u64.wrap (w.tdiv 4294967296))=hd w:=by
  unfold W64 at h
  rw[Int.tdiv_eq_ediv_of_nonneg h.1,wrapU (by omega) (by omega),wrap32];unfold hd;omega
 refine Fn_eq (Fn_of rfl ?_)
 simp(disch:=first|assumption|omega|(simp only[zl]<;>omega)|(simp only[zn])) only[ref09_Head,↓zd,zk,seval,reduceIte,List.map,AV.cells,List.all,AV.one,eqV,eqAll,splice,fillA,List.replicate,resAll,resA,zm,zg,hw]
theorem rtail_eq(m:Mem X) {w:Int} (h:W64 w):c_ref09_Tail [.int .u64 w] m=some (.int .u32 (tl w),m):=by
 have hw:IntKind.u32.wrap (w.tmod 4294967296)=tl w:=by
  unfold W64 at h
  rw[Int.tmod_eq_emod_of_nonneg h.1,wrap32];unfold tl;omega
 refine Fn_eq (Fn_of rfl ?_)
 simp(disch:=first|assumption|omega|(simp only[zl]<;>omega)|(simp only[zn])) only[ref09_Tail,↓zd,zk,seval,reduceIte,List.map,AV.cells,List.all,AV.one,eqV,eqAll,splice,fillA,List.replicate,resAll,resA,zm,zg,hw]
theorem rsize_eq(m:Mem X) {w:Int} (h:W64 w):c_ref09_Size [.int .u64 w] m=some (.int .u32 (sz w),m):=by
 have a171:assoc [(171,c_ref09_Tail (X:=X)),(170,c_ref09_Head)] 171=some c_ref09_Tail:=rfl
 have a170:assoc [(171,c_ref09_Tail (X:=X)),(170,c_ref09_Head)] 170=some c_ref09_Head:=rfl
 have he:c_ref09_Size (X:=X)=amFunc [(171,c_ref09_Tail),(170,c_ref09_Head)] ref09_Size:=rfl
 rw[he]
 generalize [(171,c_ref09_Tail (X:=X)),(170,c_ref09_Head)]=G at a171 a170 ⊢
 have h1:=rhead_eq m h
 have h2:=rtail_eq m h
 have hw:IntKind.u32.wrap (tl w - hd w)=sz w:=by rw[wrap32];rfl
 refine Fn_eq (Fn_of rfl ?_)
 simp(disch:=first|assumption|omega|(simp only[zl]<;>omega)|(simp only[zn])) only[ref09_Size,↓zd,zk,seval,reduceIte,List.map,AV.cells,List.all,AV.one,eqV,eqAll,splice,fillA,List.replicate,resAll,resA,zm,zg,a171,a170,h1,h2,hw]
theorem rpack_eq(m:Mem X) {h t:Int} (h0:0≤h) (h1:h < 4294967296) (t0:0≤t) (t1:t < 4294967296):c_ref09_Pack [.int .u32 h,.int .u32 t] m=some (.int .u64 (pk h t),m):=by
 have e1:IntKind.u64.wrap h=h:=wrapU h0 (by omega)
 have e2:IntKind.u64.wrap t=t:=wrapU t0 (by omega)
 have e3:IntKind.u64.wrap (h * 4294967296)=h * 4294967296:=wrapU (by omega) (by omega)
 have e4:IntKind.u64.wrap (h * 4294967296+t)=pk h t:=by rw[wrapU (by omega) (by omega)];rfl
 refine Fn_eq (Fn_of rfl ?_)
 simp(disch:=first|assumption|omega|(simp only[zl]<;>omega)|(simp only[zn])) only[ref09_Pack,↓zd,zk,seval,reduceIte,List.map,AV.cells,List.all,AV.one,eqV,eqAll,splice,fillA,List.replicate,resAll,resA,zm,zg,e1,e2,e3,e4]
def wordA(c:Cf) (p:Int):Int:=4+p * (6+c.q)
theorem rword_eq(m:Mem X) {c:Cf} {p:Int} (h:thereP c p):c_ref09_Word [.agg (cfC c),.int .i64 p] m=some (.int .i64 (wordA c p),m++[.cells 6 false (cfC c)]):=by
 have hb:=there_bounds h
 have hm:=mul_bounds hb.2.2.2.2.1 hb.2.2.2.2.2 (q:=6+c.q) (by omega) (by omega)
 have e1:IntKind.i64.wrap (6+c.q)=6+c.q:=wrapI (by omega) (by omega)
 have e2:IntKind.i64.wrap (p * (6+c.q))=p * (6+c.q):=wrapI (by omega) (by omega)
 have e3:IntKind.i64.wrap (4+p * (6+c.q))=wordA c p:=by rw[wrapI (by omega) (by omega)];rfl
 refine Fn_eq (Fn_of rfl ?_)
 simp(disch:=first|assumption|omega|(simp only[zl]<;>omega)|(simp only[zn])) only[ref09_Word,↓zd,zk,seval,reduceIte,List.map,AV.cells,List.all,AV.one,eqV,eqAll,splice,fillA,List.replicate,resAll,resA,zm,zg,cfC,e1,e2,e3]
end Go.Am.F10
end
section
namespace Go.Am.F10
variable {X:Type}
theorem right_eq(m:Mem X) (c:Cf):c_conf_Config_Right [.agg (cfC c)] m=some (.bool (decide (rightP c)),m++[.cells 6 false (cfC c)]):=Fn_eq (right_run c)
def slotA(c:Cf) (p i:Int):Int:=if rightP c then addrA c p (6+i % c.q) else -1
def cellsN(c:Cf):Nat:=if rightP c then(4+c.n * (6+c.q)).toNat else 0
theorem cells_b{c:Cf} (h:rightP c):(cellsN c:Int)=4+c.n * (6+c.q)∧cellsN c≤600:=by
 have hq:2≤c.q∧c.q≤64:=by have:=h.2.1;unfold roomP at this;omega
 have hn:=h.1
 have hm:0≤c.n * (6+c.q)∧c.n * (6+c.q)≤560:=by
  have h5:c.n * (6+c.q)≤8 * 70:=Int.mul_le_mul hn.2 (by omega) (by omega) (by omega)
  exact⟨Int.mul_nonneg (by omega) (by omega),by omega⟩
 unfold cellsN;rw[if_pos h];omega
theorem cellsN_le(c:Cf):cellsN c≤600:=by
 by_cases h:rightP c
 ·exact(cells_b h).2
 ·unfold cellsN;rw[if_neg h];omega
theorem addr_b{c:Cf} {p i:Int} (h:thereP c p) (h0:0≤i) (h1:i < 6+c.q):0≤addrA c p i∧addrA c p i < cellsN c:=by
 have hb:=there_bounds h
 have hc:=(cells_b h.1).1
 have hm:=mul_bounds hb.2.2.2.2.1 hb.2.2.2.2.2 (q:=6+c.q) (by omega) (by omega)
 have h2:(p+1) * (6+c.q)≤c.n * (6+c.q):=Int.mul_le_mul_of_nonneg_right (by have:=h.2.2;omega) (by omega)
 have h3:(p+1) * (6+c.q)=p * (6+c.q)+(6+c.q):=by rw[Int.add_mul,Int.one_mul]
 unfold addrA;rw[if_pos h];omega
theorem slot_b{c:Cf} {p i:Int} (h:thereP c p) (h0:0≤i):0≤slotA c p i∧slotA c p i < cellsN c:=by
 have hb:=there_bounds h
 have h1:=Int.emod_nonneg i (b:=c.q) (by omega)
 have h2:=Int.emod_lt_of_pos i (b:=c.q) (by omega)
 unfold slotA;rw[if_pos h.1]
 exact addr_b h (by omega) (by omega)
set_option maxHeartbeats 4000000 in
theorem cells_eq(m:Mem X) (c:Cf):∃ J,c_conf_Config_Cells [.agg (cfC c)] m=some (.int .i64 (cellsN c),m++J):=by
 have a157:assoc [(157,c_conf_Config_Right (X:=X))] 157=some c_conf_Config_Right:=rfl
 have he:c_conf_Config_Cells (X:=X)=amFunc [(157,c_conf_Config_Right)] conf_Config_Cells:=rfl
 rw[he]
 generalize [(157,c_conf_Config_Right (X:=X))]=G at a157 ⊢
 have hR:=right_eq (m++[.cells 6 false (cfC c)]) c
 refine⟨[.cells 6 false (cfC c),.cells 6 false (cfC c)],Fn_eq (Fn_of rfl ?_)⟩
 by_cases hr:rightP c
 ·rw[decide_eq_true hr] at hR
  have hq:2≤c.q∧c.q≤64:=by have:=hr.2.1;unfold roomP at this;omega
  have hb:=cells_b hr
  have e1:IntKind.i64.wrap (6+c.q)=6+c.q:=wrapI (by omega) (by omega)
  have e2:IntKind.i64.wrap (c.n * (6+c.q))=c.n * (6+c.q):=wrapI (by omega) (by omega)
  have e3:IntKind.i64.wrap (4+c.n * (6+c.q))=(cellsN c:Int):=by rw[wrapI (by omega) (by omega)];exact hb.1.symm
  simp only[cfC,List.append_assoc,List.cons_append,List.nil_append] at hR
  simp(disch:=first|assumption|omega|(simp only[zl]<;>omega)|(simp only[zn])) only[conf_Config_Cells,↓zd,zk,seval,reduceIte,List.map,AV.cells,List.all,AV.one,eqV,eqAll,splice,fillA,List.replicate,resAll,resA,zm,zg,cfC,a157,hR,e1,e2,e3]
 ·rw[decide_eq_false hr] at hR
  have hz:(cellsN c:Int)=0:=by unfold cellsN;rw[if_neg hr];rfl
  simp only[cfC,List.append_assoc,List.cons_append,List.nil_append] at hR
  simp(disch:=first|assumption|omega|(simp only[zl]<;>omega)|(simp only[zn])) only[conf_Config_Cells,↓zd,zk,seval,reduceIte,List.map,AV.cells,List.all,AV.one,eqV,eqAll,splice,fillA,List.replicate,resAll,resA,zm,zg,cfC,a157,hR,hz]
set_option maxHeartbeats 4000000 in
theorem next_eq(m:Mem X) (c:Cf) (p:Int):c_conf_Config_Next [.agg (cfC c),.int .i64 p] m=some (.int .i64 (addrA c p 1),m++[.cells 6 false (cfC c),.cells 7 false (cfC c++[.int .i64 p]),.cells 6 false (cfC c)]):=by
 have a177:assoc [(177,c_conf_own_at (X:=X))] 177=some c_conf_own_at:=rfl
 have he:c_conf_Config_Next (X:=X)=amFunc [(177,c_conf_own_at)] conf_Config_Next:=rfl
 have ha:=at_eq (m:=m++[.cells 6 false (cfC c)]) c p 1 (by omega) (by omega)
 rw[he]
 generalize [(177,c_conf_own_at (X:=X))]=G at a177 ⊢
 simp only[cfC,List.append_assoc,List.cons_append,List.nil_append] at ha
 refine Fn_eq (Fn_of rfl ?_)
 simp(disch:=first|assumption|omega|(simp only[zl]<;>omega)|(simp only[zn])) only[conf_Config_Next,↓zd,zk,seval,reduceIte,List.map,AV.cells,List.all,AV.one,eqV,eqAll,splice,fillA,List.replicate,resAll,resA,zm,zg,cfC,a177,ha]
set_option maxHeartbeats 4000000 in
theorem stat_eq(m:Mem X) (c:Cf) (p:Int):c_conf_Config_Stat [.agg (cfC c),.int .i64 p] m=some (.int .i64 (addrA c p 2),m++[.cells 6 false (cfC c),.cells 7 false (cfC c++[.int .i64 p]),.cells 6 false (cfC c)]):=by
 have a177:assoc [(177,c_conf_own_at (X:=X))] 177=some c_conf_own_at:=rfl
 have he:c_conf_Config_Stat (X:=X)=amFunc [(177,c_conf_own_at)] conf_Config_Stat:=rfl
 have ha:=at_eq (m:=m++[.cells 6 false (cfC c)]) c p 2 (by omega) (by omega)
 rw[he]
 generalize [(177,c_conf_own_at (X:=X))]=G at a177 ⊢
 simp only[cfC,List.append_assoc,List.cons_append,List.nil_append] at ha
 refine Fn_eq (Fn_of rfl ?_)
 simp(disch:=first|assumption|omega|(simp only[zl]<;>omega)|(simp only[zn])) only[conf_Config_Stat,↓zd,zk,seval,reduceIte,List.map,AV.cells,List.all,AV.one,eqV,eqAll,splice,fillA,List.replicate,resAll,resA,zm,zg,cfC,a177,ha]
set_option maxHeartbeats 4000000 in
theorem tick_eq(m:Mem X) (c:Cf) (p:Int):c_conf_Config_Tick [.agg (cfC c),.int .i64 p] m=some (.int .i64 (addrA c p 3),m++[.cells 6 false (cfC c),.cells 7 false (cfC c++[.int .i64 p]),.cells 6 false (cfC c)]):=by
 have a177:assoc [(177,c_conf_own_at (X:=X))] 177=some c_conf_own_at:=rfl
 have he:c_conf_Config_Tick (X:=X)=amFunc [(177,c_conf_own_at)] conf_Config_Tick:=rfl
 have ha:=at_eq (m:=m++[.cells 6 false (cfC c)]) c p 3 (by omega) (by omega)
 rw[he]
 generalize [(177,c_conf_own_at (X:=X))]=G at a177 ⊢
 simp only[cfC,List.append_assoc,List.cons_append,List.nil_append] at ha
 refine Fn_eq (Fn_of rfl ?_)
 simp(disch:=first|assumption|omega|(simp only[zl]<;>omega)|(simp only[zn])) only[conf_Config_Tick,↓zd,zk,seval,reduceIte,List.map,AV.cells,List.all,AV.one,eqV,eqAll,splice,fillA,List.replicate,resAll,resA,zm,zg,cfC,a177,ha]
set_option maxHeartbeats 4000000 in
theorem sys_eq(m:Mem X) (c:Cf) (p:Int):c_conf_Config_Sys [.agg (cfC c),.int .i64 p] m=some (.int .i64 (addrA c p 4),m++[.cells 6 false (cfC c),.cells 7 false (cfC c++[.int .i64 p]),.cells 6 false (cfC c)]):=by
 have a177:assoc [(177,c_conf_own_at (X:=X))] 177=some c_conf_own_at:=rfl
 have he:c_conf_Config_Sys (X:=X)=amFunc [(177,c_conf_own_at)] conf_Config_Sys:=rfl
 have ha:=at_eq (m:=m++[.cells 6 false (cfC c)]) c p 4 (by omega) (by omega)
 rw[he]
 generalize [(177,c_conf_own_at (X:=X))]=G at a177 ⊢
 simp only[cfC,List.append_assoc,List.cons_append,List.nil_append] at ha
 refine Fn_eq (Fn_of rfl ?_)
 simp(disch:=first|assumption|omega|(simp only[zl]<;>omega)|(simp only[zn])) only[conf_Config_Sys,↓zd,zk,seval,reduceIte,List.map,AV.cells,List.all,AV.one,eqV,eqAll,splice,fillA,List.replicate,resAll,resA,zm,zg,cfC,a177,ha]
set_option maxHeartbeats 4000000 in
theorem flag_eq(m:Mem X) (c:Cf) (p:Int):c_conf_Config_Flag [.agg (cfC c),.int .i64 p] m=some (.int .i64 (addrA c p 5),m++[.cells 6 false (cfC c),.cells 7 false (cfC c++[.int .i64 p]),.cells 6 false (cfC c)]):=by
 have a177:assoc [(177,c_conf_own_at (X:=X))] 177=some c_conf_own_at:=rfl
 have he:c_conf_Config_Flag (X:=X)=amFunc [(177,c_conf_own_at)] conf_Config_Flag:=rfl
 have ha:=at_eq (m:=m++[.cells 6 false (cfC c)]) c p 5 (by omega) (by omega)
 rw[he]
 generalize [(177,c_conf_own_at (X:=X))]=G at a177 ⊢
 simp only[cfC,List.append_assoc,List.cons_append,List.nil_append] at ha
 refine Fn_eq (Fn_of rfl ?_)
 simp(disch:=first|assumption|omega|(simp only[zl]<;>omega)|(simp only[zn])) only[conf_Config_Flag,↓zd,zk,seval,reduceIte,List.map,AV.cells,List.all,AV.one,eqV,eqAll,splice,fillA,List.replicate,resAll,resA,zm,zg,cfC,a177,ha]
abbrev SB(m:Mem X) (bs:List Int) (v:AV):Prop:=Sl m false 1 bs.length (bs.map (AV.int .u8)) v
def byteV(bs:List Int) (i:Int):Int:=bs.getD i.toNat 0
theorem byteV_b{bs:List Int} (hb:∀ x,x ∈ bs→0≤x∧x < 256) (i:Int):0≤byteV bs i∧byteV bs i < 256:=by
 unfold byteV
 rw[List.getD_eq_getElem?_getD]
 cases h:bs[i.toNat]? with
 | none=>simp
 | some x=>exact hb x (List.mem_of_getElem? h)
theorem byte_eq{m:Mem X} {bs:List Int} {v:AV} (h:SB m bs v) (hb:∀ x,x ∈ bs→0≤x∧x < 256) {i:Int} (hi:0≤i):c_docs_byteAt [v,.int .i64 i] m=some (.int .i64 (byteV bs i),m):=by
 have hlen:=h.len
 have he:c_docs_byteAt (X:=X)=amFunc [] docs_byteAt:=rfl
 rw[he]
 by_cases hlt:i < bs.length
 ·obtain⟨k,rfl⟩:∃ k:Nat,i=k:=⟨i.toNat,by omega⟩
  obtain⟨x,hx⟩:∃ x,bs[k]?=some x:=⟨_,List.getElem?_eq_getElem (by omega)⟩
  have hxb:=hb x (List.mem_of_getElem? hx)
  have hv:byteV bs k=x:=by unfold byteV;rw[List.getD_eq_getElem?_getD,Int.toNat_natCast,hx];rfl
  rw[hv]
  obtain⟨q,o,cap,ro,L,rfl,h2,h3,h4,_⟩:=h.at (by omega)
  have hg:L[o+k]?=some (.int .u8 x):=by rw[sl_get h3 (by omega)];simp[hx]
  have e1:IntKind.i64.wrap x=x:=wrapI (by omega) (by omega)
  refine Fn_eq (Fn_of rfl ?_)
  simp(disch:=first|assumption|omega|(simp only[zl]<;>omega)|(simp only[zn])) only[docs_byteAt,↓zd,zk,seval,reduceIte,List.map,AV.cells,List.all,AV.one,eqV,eqAll,splice,fillA,List.replicate,resAll,resA,zm,zg,ev_len,hlen,h2,hg,e1]
 ·have hv:byteV bs i=0:=by unfold byteV;rw[List.getD_eq_getElem?_getD,List.getElem?_eq_none (by omega)];rfl
  rw[hv]
  refine Fn_eq (Fn_of rfl ?_)
  simp(disch:=first|assumption|omega|(simp only[zl]<;>omega)|(simp only[zn])) only[docs_byteAt,↓zd,zk,seval,reduceIte,List.map,AV.cells,List.all,AV.one,eqV,eqAll,splice,fillA,List.replicate,resAll,resA,zm,zg,ev_len,hlen]
set_option maxHeartbeats 4000000 in
theorem slot_eqR(m:Mem X) {c:Cf} (hr:rightP c) (p:Int) {i:Int} (hi:0≤i) (hi2:i < 4294967296):c_conf_Config_Slot [.agg (cfC c),.int .i64 p,.int .u32 i] m=some (.int .i64 (slotA c p i),m++[.cells 6 false (cfC c),.cells 6 false (cfC c),.cells 7 false (cfC c++[.int .i64 p]),.cells 6 false (cfC c)]):=by
 have a157:assoc [(157,c_conf_Config_Right (X:=X)),(177,c_conf_own_at)] 157=some c_conf_Config_Right:=rfl
 have a177:assoc [(157,c_conf_Config_Right (X:=X)),(177,c_conf_own_at)] 177=some c_conf_own_at:=rfl
 have he:c_conf_Config_Slot (X:=X)=amFunc [(157,c_conf_Config_Right),(177,c_conf_own_at)] conf_Config_Slot:=rfl
 rw[he]
 generalize [(157,c_conf_Config_Right (X:=X)),(177,c_conf_own_at)]=G at a157 a177 ⊢
 have hR:=right_eq (m++[.cells 6 false (cfC c)]) c
 rw[decide_eq_true hr] at hR
 have hq:2≤c.q∧c.q≤64:=by have:=hr.2.1;unfold roomP at this;omega
 have e0:IntKind.u32.wrap c.q=c.q:=by rw[wrap32];omega
 have h0:=Int.emod_nonneg i (b:=c.q) (by omega)
 have h1:=Int.emod_lt_of_pos i (b:=c.q) (by omega)
 have e1:i.tmod c.q=i % c.q:=Int.tmod_eq_emod_of_nonneg hi
 have e2:IntKind.i64.wrap (i % c.q)=i % c.q:=wrapI (by omega) (by omega)
 have e3:IntKind.i64.wrap (6+i % c.q)=6+i % c.q:=wrapI (by omega) (by omega)
 have e4:¬ (c.q=0):=by omega
 have ha:=at_eq (m:=m++[.cells 6 false (cfC c),.cells 6 false (cfC c)]) c p (6+i % c.q) (by omega) (by omega)
 simp only[cfC,List.append_assoc,List.cons_append,List.nil_append] at hR ha
 refine Fn_eq (Fn_of rfl ?_)
 simp(disch:=first|assumption|omega|(simp only[zl]<;>omega)|(simp only[zn])) only[conf_Config_Slot,↓zd,zk,seval,reduceIte,List.map,AV.cells,List.all,AV.one,eqV,eqAll,splice,fillA,List.replicate,resAll,resA,zm,zg,cfC,a157,hR,e0,e4,e1,e2,e3,a177,ha]
 rw[slotA,if_pos hr]
end Go.Am.F10
end
section
namespace Go.Am
section
variable {X:Type}
theorem renL_self{ρ:Nat→Option Nat} {l:List AV} (h:∀ a,a ∈ l→AV.ren ρ a=some a):AV.renL ρ l=some l:=by
 induction l with
 | nil=>rfl
 | cons a l ih=>simp only[AV.renL,h a (by simp),ih (fun b hb=>h b (by simp[hb]))]
def below(n:Nat):Nat→Option Nat:=fun i=>if i < n then some i else none
theorem ren_below{num:Nat→Nat} {μ:Mu} {n:Nat} (hn:∀ i p,μ i=some p→i < n) {a:AV} {d:Value} (h:VR num μ a d):AV.ren (below n) a=some a:=by
 have one:∀ {i:Nat} {p:Pl},μ i=some p→below n i=some i:=fun h=>if_pos (hn _ _ h)
 have all:∀ {as:List AV} {cs:Array Value},as.length=cs.size→(∀ (j:Nat) (a:AV) (d:Value),as[j]?=some a→cs[j]?=some d→AV.ren (below n) a=some a)→AV.renL (below n) as=some as:=by
  intro as cs hl h
  refine renL_self fun a ha=>?_
  obtain⟨j,hj⟩:=List.mem_iff_getElem?.1 ha
  have hjl:j < cs.size:=by rw[← hl];exact(List.getElem?_eq_some_iff.1 hj).1
  exact h j a cs[j] hj (Array.getElem?_eq_getElem hjl)
 induction h with
 | undef v=>rfl
 | bool b=>rfl
 | int k n=>rfl
 | str s=>rfl
 | nilp=>rfl
 | ptr h=>simp only[AV.ren,one h]
 | nils=>rfl
 | sl h=>simp only[AV.ren,one h]
 | slu h _ _=>simp only[AV.ren,one h]
 | slz h=>simp only[AV.ren,one h]
 | slz0 h=>simp only[AV.ren,one h]
 | mt=>rfl
 | yld=>rfl
 | nilm=>rfl
 | map h=>simp only[AV.ren,one h]
 | nilf=>rfl
 | fn h1 _ h3 _ ih2 ih4=>simp only[AV.ren,all h1 ih2,all h3 ih4]
 | agg h1 _ ih=>simp only[AV.ren,all h1 ih]
 | tup h1 _ ih=>simp only[AV.ren,all h1 ih]
structure DropAt (f:AFun X) (ρ:Nat→Option Nat) (v0:AV) (m0:Mem X) (args:List AV) (m:Mem X) (v:AV) (m':Mem X):Prop where
 run:f args m=some (v0,m0)
 res:AV.ren ρ v0=some v
 mlen:m.length≤m'.length
 old:∀ i,i < m.length→ρ i=some i
 new:∀ (j i:Nat),ρ j=some i→m.length≤j→m.length≤i∧i < m'.length
 inj:∀ j j' i,ρ j=some i→ρ j'=some i→j=j'
 ch:∀ (j i:Nat) (c:Chunk X),ρ j=some i→m0[j]?=some c→(∃ c',renC ρ c=some c'∧m'[i]?=some c')∨(j < m.length∧m[j]?=some c∧m'[j]?=some c)
def Drop(f g:AFun X):Prop:=∀ args m v m',g args m=some (v,m')→∃ ρ v0 m0,DropAt f ρ v0 m0 args m v m'
theorem Drop.mono{f g:AFun X} (h:Drop f g):Mono g:=fun args m v m' hg=>by
 obtain⟨_,_,_,k⟩:=h args m v m' hg
 exact k.mlen
variable {A:AbsSem X} {num:Nat→Nat} {P:Program}
open Classical in
end
end Go.Am
end
