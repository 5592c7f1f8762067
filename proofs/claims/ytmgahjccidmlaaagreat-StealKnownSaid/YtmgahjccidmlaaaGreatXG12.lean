import Derived.Test.YtmgahjccidmlaaaGreatXG11
set_option linter.unusedSimpArgs false
set_option linter.unusedVariables false
section
namespace Go.Am.F11
set_option maxRecDepth 10000
def law11_StealNone:AFn:={ nloc:=13,npar:=2,res:=[.loc 3],body:=(.seq (.region [⟨.box,[.loc 0],some 2,none⟩,⟨.mov,[.c (.bool false)],some 3,none⟩]) (.seq (.region [⟨.mov,[.c (.nilp)],some 4,none⟩]) (.seq (.region [
 ⟨.alloc [.int .i64 0,.int .i64 0,.int .i64 0,.int .i64 0,.int .i64 0,.int .i64 0,.nilp,.int .i64 0,.int .i64 0,.int .i64 0,.int .u64 0,.nils,.int .i64 0],[],some 5,none⟩]) (.seq (.region [⟨.call 21,[.c (.int .i64 30)],none,none⟩,⟨.mov,[.tmp 0],some 6,none⟩]) (.seq (.draw [0,1,2,3,4,5,6,7,8,9,10] 0 [
 ⟨.mov,[.loc 4],none,none⟩,⟨.load (some 6),[.loc 2],none,none⟩,⟨.mov,[.loc 1],none,none⟩,⟨.mov,[.loc 1],none,none⟩,⟨.call 270,[.tmp 1,.tmp 2,.tmp 3],none,none⟩,⟨.load (some 6),[.loc 2],none,none⟩,⟨.call 270,[.tmp 5,.c (.int .i64 (-1)),.c (.int .i64 0)],none,none⟩,
 ⟨.build [.int .i64 0,.int .i64 0,.int .i64 0,.int .i64 0,.int .i64 0,.int .i64 0] [],[],none,none⟩,⟨.call 270,[.tmp 7,.c (.int .i64 0),.c (.int .i64 1)],none,none⟩,⟨.lit 5 1 [.nilp] [(0,1),(1,1),(2,1),(3,1),(4,1)],[.tmp 0,.loc 5,.tmp 4,.tmp 6,.tmp 8],none,none⟩,
 ⟨.mov,[.tmp 9],some 7,none⟩] [(5,[0])]) (.seq (.seq (.region [⟨.mov,[.c (.int .i64 0)],some 8,none⟩]) (.block 0 (.loop (.seq (.seq (.region [⟨.mov,[.loc 8],none,none⟩,⟨.mov,[.loc 7],none,none⟩,⟨.len,[.tmp 1],none,none⟩,
 ⟨.bin .lss,[.tmp 0,.tmp 2],some 11,none⟩]) (.cond (.loc 11) .skip (.exit 0))) (.seq (.block 1 (.seq (.region [⟨.mov,[.loc 7],none,none⟩,⟨.mov,[.loc 8],none,none⟩,⟨.iaddr 1 none,[.tmp 0,.tmp 1],none,none⟩,⟨.load none,[.tmp 2],none,none⟩,⟨.call 278,[.tmp 3],none,none⟩,⟨.mov,[.tmp 4],none,none⟩,
 ⟨.extract 0,[.tmp 5],none,none⟩,⟨.extract 1,[.tmp 5],none,none⟩,⟨.mov,[.tmp 6],some 9,none⟩,⟨.mov,[.tmp 7],some 10,none⟩]) (.seq (.region [⟨.mov,[.loc 7],none,none⟩,⟨.mov,[.loc 8],none,none⟩,⟨.iaddr 1 none,[.tmp 0,.tmp 1],none,none⟩,⟨.load none,[.tmp 2],none,none⟩,⟨.call 277,[.tmp 3],none,none⟩,
 ⟨.not,[.tmp 4],none,none⟩,⟨.mov,[.tmp 5],none,none⟩,⟨.mov,[.loc 7],none,some (6,false)⟩,⟨.mov,[.loc 8],none,some (6,false)⟩,⟨.iaddr 1 none,[.tmp 7,.tmp 8],none,some (6,false)⟩,⟨.load none,[.tmp 9],none,some (6,false)⟩,⟨.mov,[.loc 6],none,some (6,false)⟩,
 ⟨.call 274,[.tmp 10,.tmp 11],none,some (6,false)⟩,⟨.not,[.tmp 12],none,some (6,false)⟩,⟨.pick,[.tmp 6,.c (.bool true),.tmp 13],none,none⟩,⟨.mov,[.tmp 14],none,none⟩,⟨.mov,[.loc 9],none,some (15,false)⟩,⟨.bin .neq,[.tmp 16,.c (.int .i64 0)],none,some (15,false)⟩,
 ⟨.pick,[.tmp 15,.c (.bool true),.tmp 17],none,none⟩,⟨.mov,[.tmp 18],none,none⟩,⟨.mov,[.loc 10],none,some (19,false)⟩,⟨.pick,[.tmp 19,.c (.bool true),.tmp 20],none,none⟩,⟨.mov,[.tmp 21],none,none⟩,⟨.mov,[.loc 7],none,some (22,false)⟩,⟨.mov,[.loc 8],none,some (22,false)⟩,
 ⟨.iaddr 1 none,[.tmp 23,.tmp 24],none,some (22,false)⟩,⟨.load none,[.tmp 25],none,some (22,false)⟩,⟨.call 275,[.tmp 26],none,some (22,false)⟩,⟨.bin .neq,[.tmp 27,.c (.int .i64 0)],none,some (22,false)⟩,⟨.pick,[.tmp 22,.c (.bool true),.tmp 28],none,none⟩,⟨.mov,[.tmp 29],none,none⟩,
 ⟨.mov,[.loc 7],none,some (30,false)⟩,⟨.mov,[.loc 8],none,some (30,false)⟩,⟨.iaddr 1 none,[.tmp 31,.tmp 32],none,some (30,false)⟩,⟨.load none,[.tmp 33],none,some (30,false)⟩,⟨.call 279,[.tmp 34],none,some (30,false)⟩,⟨.len,[.tmp 35],none,some (30,false)⟩,
 ⟨.bin .neq,[.tmp 36,.c (.int .i64 0)],none,some (30,false)⟩,⟨.pick,[.tmp 30,.c (.bool true),.tmp 37],none,none⟩,⟨.mov,[.tmp 38],none,none⟩,⟨.mov,[.loc 7],none,some (39,false)⟩,⟨.mov,[.loc 8],none,some (39,false)⟩,⟨.iaddr 1 none,[.tmp 40,.tmp 41],none,some (39,false)⟩,
 ⟨.load none,[.tmp 42],none,some (39,false)⟩,⟨.call 276,[.tmp 43],none,some (39,false)⟩,⟨.len,[.tmp 44],none,some (39,false)⟩,⟨.bin .neq,[.tmp 45,.c (.int .i64 0)],none,some (39,false)⟩,⟨.pick,[.tmp 39,.c (.bool true),.tmp 46],some 12,none⟩]) (.cond (.loc 12) (.seq (.region [
 ⟨.mov,[.c (.bool false)],some 3,none⟩]) .ret) .skip)))) (.region [⟨.mov,[.loc 8],none,none⟩,⟨.bin .add,[.tmp 0,.c (.int .i64 1)],none,none⟩,⟨.mov,[.tmp 1],some 8,none⟩])))))) (.seq (.region [⟨.mov,[.loc 6],none,none⟩,⟨.call 46,[.tmp 0],none,none⟩,⟨.bin .eql,[.tmp 1,.c (.int .u64 0)],none,none⟩,
 ⟨.mov,[.tmp 2],none,none⟩,⟨.call 268,[],none,some (3,true)⟩,⟨.pick,[.tmp 3,.tmp 4,.c (.bool false)],none,none⟩,⟨.mov,[.tmp 5],some 3,none⟩]) .ret)))))))}
def law11_StealPlays:AFn:={ nloc:=22,npar:=5,res:=[.loc 6],body:=(.seq (.region [⟨.box,[.loc 0],some 5,none⟩,⟨.mov,[.c (.bool false)],some 6,none⟩]) (.seq (.seq (.region [⟨.mov,[.loc 4],none,none⟩,⟨.len,[.tmp 0],none,none⟩,⟨.bin .gtr,[.tmp 1,.c (.int .i64 80)],none,none⟩,⟨.mov,[.tmp 2],none,none⟩,
 ⟨.mov,[.loc 3],none,some (3,false)⟩,⟨.len,[.tmp 4],none,some (3,false)⟩,⟨.bin .gtr,[.tmp 5,.c (.int .i64 40)],none,some (3,false)⟩,⟨.pick,[.tmp 3,.c (.bool true),.tmp 6],some 16,none⟩]) (.cond (.loc 16) (.seq (.region [⟨.call 268,[],none,none⟩,
 ⟨.mov,[.tmp 0],some 6,none⟩]) .ret) .skip)) (.seq (.region [⟨.load (some 6),[.loc 5],none,none⟩,⟨.mov,[.loc 3],none,none⟩,⟨.call 134,[.tmp 0,.tmp 1],none,none⟩,⟨.call 135,[.tmp 2],none,none⟩,⟨.mov,[.tmp 3],none,none⟩,⟨.extract 0,[.tmp 4],none,none⟩,⟨.extract 1,[.tmp 4],none,none⟩,
 ⟨.alloc [.nils,.int .u64 0],[],some 8,none⟩,⟨.mov,[.tmp 5],some 7,none⟩,⟨.store 2,[.tmp 7,.tmp 6],none,none⟩]) (.seq (.draw [9,0,1,2,3,4,5,6,7,8,10,11] 1 [
 ⟨.alloc [.int .i64 0,.int .i64 0,.int .i64 0,.int .i64 0,.int .i64 0,.int .i64 0,.int .i64 0,.int .i64 0,.int .i64 0,.int .u64 0,.nils,.int .i64 0,.int .i64 0,.int .i64 0,.int .i64 0,.int .i64 0,.int .i64 0,.int .i64 0,.int .i64 0,.nils,.int .i64 0,.int .u64 0,.int .i64 0,.int .i64 0],[],some 10,none⟩,
 ⟨.load (some 6),[.loc 5],none,none⟩,⟨.mov,[.loc 1],none,none⟩,⟨.mov,[.loc 2],none,none⟩,⟨.call 270,[.tmp 1,.tmp 2,.tmp 3],none,none⟩,⟨.load (some 6),[.loc 5],none,none⟩,⟨.call 147,[.tmp 5],none,none⟩,⟨.mov,[.loc 1],none,none⟩,⟨.mov,[.loc 2],none,none⟩,⟨.call 271,[.tmp 6,.tmp 7,.tmp 8],none,none⟩,
 ⟨.mov,[.tmp 4],some 9,none⟩,⟨.store 24,[.tmp 0,.tmp 9],none,none⟩] [(0,[1,5,7,10]),(5,[1])]) (.seq (.seq (.region [⟨.mov,[.c (.int .i64 0)],some 11,none⟩]) (.block 0 (.loop (.seq (.seq (.region [⟨.mov,[.loc 11],none,none⟩,⟨.mov,[.loc 4],none,none⟩,⟨.len,[.tmp 1],none,none⟩,
 ⟨.bin .leq,[.tmp 0,.tmp 2],some 17,none⟩]) (.cond (.loc 17) .skip (.exit 0))) (.seq (.block 1 (.seq (.seq (.region [⟨.mov,[.loc 9],none,none⟩,⟨.load (some 24),[.loc 10],none,none⟩,⟨.call 272,[.tmp 0,.tmp 1],none,none⟩,⟨.not,[.tmp 2],none,none⟩,⟨.mov,[.tmp 3],none,none⟩,
 ⟨.mov,[.loc 9],none,some (4,false)⟩,⟨.load (some 24),[.loc 10],none,some (4,false)⟩,⟨.call 272,[.tmp 5,.tmp 6],none,some (4,false)⟩,⟨.not,[.tmp 7],none,some (4,false)⟩,⟨.pick,[.tmp 4,.c (.bool true),.tmp 8],none,none⟩,⟨.mov,[.tmp 9],none,none⟩,⟨.mov,[.loc 7],none,some (10,false)⟩,
 ⟨.load (some 2),[.loc 8],none,some (10,false)⟩,⟨.call 68,[.tmp 11,.tmp 12],none,some (10,false)⟩,⟨.not,[.tmp 13],none,some (10,false)⟩,⟨.pick,[.tmp 10,.c (.bool true),.tmp 14],some 18,none⟩]) (.cond (.loc 18) (.seq (.region [
 ⟨.mov,[.c (.bool false)],some 6,none⟩]) .ret) .skip)) (.seq (.seq (.region [⟨.mov,[.loc 11],none,none⟩,⟨.mov,[.loc 4],none,none⟩,⟨.len,[.tmp 1],none,none⟩,⟨.bin .eql,[.tmp 0,.tmp 2],some 19,none⟩]) (.cond (.loc 19) (.exit 0) .skip)) (.seq (.region [⟨.mov,[.loc 7],none,none⟩,
 ⟨.call 46,[.tmp 0],none,none⟩,⟨.mov,[.tmp 1],some 12,none⟩]) (.seq (.region [⟨.load (some 24),[.loc 10],none,none⟩,⟨.load (some 2),[.loc 8],none,none⟩,⟨.call 273,[.tmp 0,.tmp 1],none,none⟩,⟨.mov,[.tmp 2],none,none⟩,⟨.extract 0,[.tmp 3],none,none⟩,⟨.extract 1,[.tmp 3],none,none⟩,
 ⟨.alloc [.int .i64 0,.int .i64 0,.int .i64 0,.int .i64 0,.int .i64 0,.int .i64 0,.int .i64 0,.int .i64 0,.int .i64 0,.int .u64 0,.nils,.int .i64 0,.int .i64 0,.int .i64 0,.int .i64 0,.int .i64 0,.int .i64 0,.int .i64 0,.int .i64 0,.nils,.int .i64 0,.int .u64 0,.int .i64 0,.int .i64 0],[],some 13,none⟩,
 ⟨.alloc [.nils,.int .u64 0],[],some 14,none⟩,⟨.store 24,[.tmp 6,.tmp 4],none,none⟩,⟨.store 2,[.tmp 7,.tmp 5],none,none⟩]) (.seq (.region [⟨.load (some 24),[.loc 13],none,none⟩,⟨.store 24,[.loc 10,.tmp 0],none,none⟩]) (.seq (.region [⟨.load (some 2),[.loc 14],none,none⟩,
 ⟨.store 2,[.loc 8,.tmp 0],none,none⟩]) (.seq (.seq (.draw [0,1,2,3,4,5,6,7,8,9,10,11,12,13] 0 [⟨.mov,[.loc 9],none,none⟩,⟨.mov,[.loc 7],none,none⟩,⟨.call 274,[.tmp 0,.tmp 1],none,none⟩,⟨.faddr 8,[.loc 10],none,none⟩,⟨.load none,[.tmp 3],none,none⟩,⟨.bin .eql,[.tmp 4,.c (.int .i64 0)],none,none⟩,
 ⟨.eqv .bool true,[.tmp 2,.tmp 5],none,none⟩,⟨.mov,[.tmp 6],none,none⟩,⟨.mov,[.loc 7],none,some (7,false)⟩,⟨.call 46,[.tmp 8],none,some (7,false)⟩,⟨.mov,[.loc 12],none,some (7,false)⟩,⟨.bin .add,[.tmp 10,.c (.int .u64 1)],none,some (7,false)⟩,⟨.bin .gtr,[.tmp 9,.tmp 11],none,some (7,false)⟩,
 ⟨.pick,[.tmp 7,.c (.bool true),.tmp 12],some 20,none⟩] [(4,[0])]) (.cond (.loc 20) (.seq (.region [⟨.mov,[.c (.bool false)],some 6,none⟩]) .ret) .skip)) (.seq (.region [⟨.mov,[.loc 4],none,none⟩,⟨.mov,[.loc 11],none,none⟩,⟨.iaddr 3 none,[.tmp 0,.tmp 1],none,none⟩,⟨.faddr 0,[.tmp 2],none,none⟩,
 ⟨.load none,[.tmp 3],none,none⟩,⟨.mov,[.tmp 4],none,none⟩,⟨.faddr 0,[.loc 8],none,some (5,true)⟩,⟨.load none,[.tmp 6],none,some (5,true)⟩,⟨.len,[.tmp 7],none,some (5,true)⟩,⟨.bin .gtr,[.tmp 8,.c (.int .i64 0)],none,some (5,true)⟩,
 ⟨.pick,[.tmp 5,.tmp 9,.c (.bool false)],some 21,none⟩]) (.cond (.loc 21) (.seq (.region [⟨.mov,[.loc 4],none,none⟩,⟨.mov,[.loc 11],none,none⟩,⟨.iaddr 3 none,[.tmp 0,.tmp 1],none,none⟩,⟨.faddr 1,[.tmp 2],none,none⟩,⟨.load none,[.tmp 3],none,none⟩,⟨.faddr 0,[.loc 8],none,none⟩,
 ⟨.load none,[.tmp 5],none,none⟩,⟨.len,[.tmp 6],none,none⟩,⟨.call 87,[.tmp 4,.tmp 7],none,none⟩,⟨.mov,[.tmp 8],some 15,none⟩]) (.seq (.region [⟨.mov,[.loc 7],none,none⟩,⟨.mov,[.loc 15],none,none⟩,⟨.mov,[.loc 4],none,none⟩,⟨.mov,[.loc 11],none,none⟩,⟨.iaddr 3 none,[.tmp 2,.tmp 3],none,none⟩,
 ⟨.faddr 2,[.tmp 4],none,none⟩,⟨.load none,[.tmp 5],none,none⟩,⟨.call 22,[.tmp 0,.tmp 1,.tmp 6],none,none⟩]) (.region [⟨.load (some 2),[.loc 8],none,none⟩,⟨.mov,[.loc 15],none,none⟩,⟨.mov,[.loc 4],none,none⟩,⟨.mov,[.loc 11],none,none⟩,⟨.iaddr 3 none,[.tmp 2,.tmp 3],none,none⟩,
 ⟨.faddr 2,[.tmp 4],none,none⟩,⟨.load none,[.tmp 5],none,none⟩,⟨.call 65,[.tmp 0,.tmp 1,.tmp 6],none,none⟩,⟨.store 2,[.loc 8,.tmp 7],none,none⟩]))) .skip)))))))))) (.region [⟨.mov,[.loc 11],none,none⟩,⟨.bin .add,[.tmp 0,.c (.int .i64 1)],none,none⟩,⟨.mov,[.tmp 1],some 11,none⟩])))))) (.seq (.region [
 ⟨.call 268,[],none,none⟩,⟨.mov,[.tmp 0],some 6,none⟩]) .ret))))))}
def law11_StealKeeps:AFn:={ nloc:=31,npar:=3,res:=[.loc 4],body:=(.seq (.region [⟨.box,[.loc 0],some 3,none⟩,⟨.mov,[.c (.bool false)],some 4,none⟩]) (.seq (.seq (.region [⟨.mov,[.loc 2],none,none⟩,⟨.len,[.tmp 0],none,none⟩,⟨.bin .gtr,[.tmp 1,.c (.int .i64 150)],none,none⟩,⟨.mov,[.tmp 2],none,none⟩,
 ⟨.mov,[.loc 1],none,some (3,false)⟩,⟨.len,[.tmp 4],none,some (3,false)⟩,⟨.bin .gtr,[.tmp 5,.c (.int .i64 40)],none,some (3,false)⟩,⟨.pick,[.tmp 3,.c (.bool true),.tmp 6],some 19,none⟩]) (.cond (.loc 19) (.seq (.region [⟨.call 268,[],none,none⟩,
 ⟨.mov,[.tmp 0],some 4,none⟩]) .ret) .skip)) (.seq (.region [⟨.load (some 6),[.loc 3],none,none⟩,⟨.call 133,[.tmp 0],none,none⟩,⟨.store 6,[.loc 3,.tmp 1],none,none⟩]) (.seq (.region [⟨.faddr 0,[.loc 3],none,none⟩,⟨.load none,[.tmp 0],none,none⟩,⟨.max,[.c (.int .i64 2),.tmp 1],none,none⟩,
 ⟨.faddr 0,[.loc 3],none,none⟩,⟨.store 1,[.tmp 3,.tmp 2],none,none⟩]) (.seq (.region [⟨.faddr 0,[.loc 3],none,none⟩,⟨.load none,[.tmp 0],none,none⟩,⟨.bin .add,[.tmp 1,.c (.int .i64 1)],none,none⟩,⟨.faddr 3,[.loc 3],none,none⟩,⟨.store 1,[.tmp 3,.tmp 2],none,none⟩]) (.seq (.region [
 ⟨.load (some 6),[.loc 3],none,none⟩,⟨.mov,[.loc 1],none,none⟩,⟨.call 134,[.tmp 0,.tmp 1],none,none⟩,⟨.mov,[.tmp 2],some 5,none⟩]) (.seq (.seq (.region [⟨.mov,[.loc 5],none,none⟩,⟨.len,[.tmp 0],none,none⟩,⟨.bin .eql,[.tmp 1,.c (.int .i64 0)],some 20,none⟩]) (.cond (.loc 20) (.seq (.region [
 ⟨.mov,[.c (.bool false)],some 4,none⟩]) .ret) .skip)) (.seq (.draw [0,1,2,3,4,5,6,7,8,9,10,11,12] 0 [⟨.mov,[.loc 5],none,none⟩,⟨.load (some 6),[.loc 3],none,none⟩,⟨.call 159,[.tmp 1,.c (.int .i64 0)],none,none⟩,⟨.mov,[.loc 5],none,none⟩,⟨.load (some 6),[.loc 3],none,none⟩,
 ⟨.call 159,[.tmp 4,.c (.int .i64 0)],none,none⟩,⟨.iaddr 1 none,[.tmp 3,.tmp 5],none,none⟩,⟨.load none,[.tmp 6],none,none⟩,⟨.conv .u32,[.tmp 7],none,none⟩,⟨.conv .u64,[.tmp 8],none,none⟩,⟨.shf .shl,[.tmp 9,.c (.int .u64 32)],none,none⟩,⟨.iaddr 1 none,[.tmp 0,.tmp 2],none,none⟩,
 ⟨.store 1,[.tmp 11,.tmp 10],none,none⟩] [(4,[0])]) (.seq (.draw [0,1,2,3,4,5,6,7,8,9,10,11,12,13,14,15,16] 0 [⟨.mov,[.loc 5],none,none⟩,⟨.load (some 6),[.loc 3],none,none⟩,⟨.call 159,[.tmp 1,.c (.int .i64 0)],none,none⟩,⟨.mov,[.loc 5],none,none⟩,⟨.load (some 6),[.loc 3],none,none⟩,
 ⟨.call 159,[.tmp 4,.c (.int .i64 0)],none,none⟩,⟨.iaddr 1 none,[.tmp 3,.tmp 5],none,none⟩,⟨.load none,[.tmp 6],none,none⟩,⟨.mov,[.loc 5],none,none⟩,⟨.load (some 6),[.loc 3],none,none⟩,⟨.call 159,[.tmp 9,.c (.int .i64 0)],none,none⟩,⟨.iaddr 1 none,[.tmp 8,.tmp 10],none,none⟩,
 ⟨.load none,[.tmp 11],none,none⟩,⟨.shf .shr,[.tmp 12,.c (.int .u64 32)],none,none⟩,⟨.bin .or,[.tmp 7,.tmp 13],none,none⟩,⟨.iaddr 1 none,[.tmp 0,.tmp 2],none,none⟩,⟨.store 1,[.tmp 15,.tmp 14],none,none⟩] [(4,[0]),(7,[11]),(9,[0,3])]) (.seq (.region [⟨.mov,[.loc 5],none,none⟩,
 ⟨.call 135,[.tmp 0],none,none⟩,⟨.mov,[.tmp 1],none,none⟩,⟨.extract 0,[.tmp 2],none,none⟩,⟨.extract 1,[.tmp 2],none,none⟩,⟨.alloc [.nils,.int .u64 0],[],none,none⟩,⟨.mov,[.tmp 3],some 6,none⟩,⟨.store 2,[.tmp 5,.tmp 4],none,none⟩]) (.seq (.region [⟨.load (some 6),[.loc 3],none,none⟩,
 ⟨.mov,[.loc 6],none,none⟩,⟨.call 136,[.tmp 0,.tmp 1,.c (.int .i64 1)],none,none⟩,⟨.mov,[.tmp 2],some 7,none⟩]) (.seq (.region [⟨.mov,[.c (.int .i64 1000)],some 8,none⟩]) (.seq (.draw [0,1,2,3,4,5,6] 0 [⟨.load (some 6),[.loc 3],none,none⟩,
 ⟨.call 270,[.tmp 0,.c (.int .i64 0),.c (.int .i64 1)],none,none⟩,⟨.load (some 6),[.loc 3],none,none⟩,⟨.mov,[.loc 8],none,none⟩,⟨.call 185,[.tmp 2,.c (.int .i64 1),.tmp 3],none,none⟩,⟨.mov,[.tmp 1],some 9,none⟩,⟨.mov,[.tmp 4],some 10,none⟩] [(2,[0])]) (.seq (.region [
 ⟨.mov,[.c (.nils)],some 11,none⟩]) (.seq (.region [⟨.mov,[.c (.bool false)],some 12,none⟩]) (.seq (.seq (.region [⟨.mov,[.c (.int .i64 0)],some 13,none⟩]) (.block 0 (.loop (.seq (.seq (.region [⟨.mov,[.loc 13],none,none⟩,⟨.mov,[.loc 2],none,none⟩,⟨.len,[.tmp 1],none,none⟩,
 ⟨.bin .lss,[.tmp 0,.tmp 2],some 21,none⟩]) (.cond (.loc 21) .skip (.exit 0))) (.seq (.block 1 (.seq (.region [⟨.load (some 6),[.loc 3],none,none⟩,⟨.mov,[.loc 6],none,none⟩,⟨.call 136,[.tmp 0,.tmp 1,.c (.int .i64 1)],none,none⟩,⟨.mov,[.tmp 2],some 14,none⟩]) (.seq (.region [⟨.mov,[.loc 2],none,none⟩,
 ⟨.mov,[.loc 13],none,none⟩,⟨.iaddr 2 none,[.tmp 0,.tmp 1],none,none⟩,⟨.faddr 0,[.tmp 2],none,none⟩,⟨.load none,[.tmp 3],none,none⟩,⟨.call 87,[.tmp 4,.c (.int .i64 3)],some 22,none⟩]) (.block 2 (.seq (.region [⟨.bin .eql,[.loc 22,.c (.int .i64 0)],none,none⟩,
 ⟨.mov,[.tmp 0],some 23,none⟩]) (.cond (.loc 23) (.seq (.region [⟨.mov,[.loc 9],none,none⟩,⟨.mov,[.loc 6],none,none⟩,⟨.call 274,[.tmp 0,.tmp 1],none,none⟩]) (.seq (.region [⟨.mov,[.loc 9],none,none⟩,⟨.call 275,[.tmp 0],none,none⟩,⟨.bin .gtr,[.tmp 1,.c (.int .i64 0)],none,none⟩,
 ⟨.mov,[.tmp 2],none,none⟩,⟨.mov,[.loc 12],none,some (3,true)⟩,⟨.not,[.tmp 4],none,some (3,true)⟩,⟨.pick,[.tmp 3,.tmp 5,.c (.bool false)],some 24,none⟩]) (.cond (.loc 24) (.seq (.region [⟨.mov,[.c (.bool true)],some 12,none⟩]) (.seq (.region [⟨.mov,[.loc 14],none,none⟩,⟨.len,[.tmp 0],none,none⟩,
 ⟨.mov,[.loc 14],none,none⟩,⟨.len,[.tmp 2],none,none⟩,⟨.bin .quo,[.tmp 3,.c (.int .i64 2)],none,none⟩,⟨.bin .sub,[.tmp 1,.tmp 4],none,none⟩,⟨.mov,[.tmp 5],some 15,none⟩]) (.seq (.draw [0,1,2,3,4,5,6,7,8,9,10,11,12,13,14,15,16,17,18,19,20,21,22] 0 [⟨.mov,[.loc 9],none,none⟩,
 ⟨.call 275,[.tmp 0],none,none⟩,⟨.mov,[.loc 15],none,none⟩,⟨.bin .neq,[.tmp 1,.tmp 2],none,none⟩,⟨.mov,[.tmp 3],none,none⟩,⟨.mov,[.loc 9],none,some (4,false)⟩,⟨.call 276,[.tmp 5],none,some (4,false)⟩,⟨.mov,[.loc 14],none,some (4,false)⟩,⟨.mov,[.loc 15],none,some (4,false)⟩,
 ⟨.slice 1 false true false,[.tmp 7,.tmp 8],none,some (4,false)⟩,⟨.call 84,[.tmp 6,.tmp 9],none,some (4,false)⟩,⟨.not,[.tmp 10],none,some (4,false)⟩,⟨.pick,[.tmp 4,.c (.bool true),.tmp 11],none,none⟩,⟨.mov,[.tmp 12],none,none⟩,⟨.load (some 6),[.loc 3],none,some (13,false)⟩,
 ⟨.mov,[.loc 6],none,some (13,false)⟩,⟨.call 136,[.tmp 14,.tmp 15,.c (.int .i64 1)],none,some (13,false)⟩,⟨.mov,[.loc 14],none,some (13,false)⟩,⟨.mov,[.loc 15],none,some (13,false)⟩,⟨.slice 1 true false false,[.tmp 17,.tmp 18],none,some (13,false)⟩,⟨.call 84,[.tmp 16,.tmp 19],none,some (13,false)⟩,
 ⟨.not,[.tmp 20],none,some (13,false)⟩,⟨.pick,[.tmp 13,.c (.bool true),.tmp 21],some 25,none⟩] [(9,[2]),(19,[11])]) (.cond (.loc 25) (.seq (.region [⟨.mov,[.c (.bool false)],some 4,none⟩]) .ret) .skip)))) .skip))) (.seq (.region [⟨.bin .eql,[.loc 22,.c (.int .i64 1)],none,none⟩,
 ⟨.mov,[.tmp 0],some 26,none⟩]) (.cond (.loc 26) (.seq (.region [⟨.mov,[.loc 10],none,none⟩,⟨.mov,[.loc 6],none,none⟩,⟨.call 186,[.tmp 0,.tmp 1],some 27,none⟩]) (.cond (.loc 27) (.seq (.region [⟨.mov,[.loc 7],none,none⟩,⟨.mov,[.loc 8],none,none⟩,⟨.lit 1 1 [.int .i64 0] [(0,1)],[.tmp 1],none,none⟩,
 ⟨.append 1 8,[.tmp 0,.tmp 2],none,none⟩,⟨.mov,[.tmp 3],some 7,none⟩]) (.seq (.region [⟨.mov,[.loc 11],none,none⟩,⟨.mov,[.loc 10],none,none⟩,⟨.call 187,[.tmp 1],none,none⟩,⟨.append 1 8,[.tmp 0,.tmp 2],none,none⟩,⟨.mov,[.tmp 3],some 11,none⟩]) (.seq (.region [⟨.mov,[.loc 8],none,none⟩,
 ⟨.bin .add,[.tmp 0,.c (.int .i64 1)],none,none⟩,⟨.mov,[.tmp 1],some 8,none⟩]) (.region [⟨.load (some 6),[.loc 3],none,none⟩,⟨.mov,[.loc 8],none,none⟩,⟨.call 185,[.tmp 0,.c (.int .i64 1),.tmp 1],none,none⟩,⟨.mov,[.tmp 2],some 10,none⟩])))) .skip)) (.draw [0,1,2,3,4,5,6,7,8,9,10,11] 0 [
 ⟨.mov,[.loc 11],none,none⟩,⟨.load (some 6),[.loc 3],none,none⟩,⟨.mov,[.loc 6],none,none⟩,⟨.mov,[.loc 2],none,none⟩,⟨.mov,[.loc 13],none,none⟩,⟨.iaddr 2 none,[.tmp 3,.tmp 4],none,none⟩,⟨.faddr 1,[.tmp 5],none,none⟩,⟨.load none,[.tmp 6],none,none⟩,⟨.call 87,[.tmp 7,.c (.int .i64 3)],none,none⟩,
 ⟨.call 139,[.tmp 1,.tmp 2,.c (.int .i64 1),.tmp 8],none,none⟩,⟨.append 1 8,[.tmp 0,.tmp 9],none,none⟩,⟨.mov,[.tmp 10],some 11,none⟩] [(1,[9])]))))))))) (.region [⟨.mov,[.loc 13],none,none⟩,⟨.bin .add,[.tmp 0,.c (.int .i64 1)],none,none⟩,⟨.mov,[.tmp 1],some 13,none⟩])))))) (.seq (.seq (.region [
 ⟨.mov,[.c (.int .i64 0)],some 16,none⟩]) (.block 3 (.loop (.seq (.seq (.region [⟨.mov,[.loc 16],none,none⟩,⟨.bin .lss,[.tmp 0,.c (.int .i64 300)],none,none⟩,⟨.mov,[.tmp 1],none,none⟩,⟨.mov,[.loc 9],none,some (2,true)⟩,⟨.call 277,[.tmp 3],none,some (2,true)⟩,⟨.not,[.tmp 4],none,some (2,true)⟩,
 ⟨.pick,[.tmp 2,.tmp 5,.c (.bool false)],some 28,none⟩]) (.cond (.loc 28) .skip (.exit 3))) (.seq (.block 4 (.region [⟨.mov,[.loc 9],none,none⟩,⟨.mov,[.loc 6],none,none⟩,⟨.call 274,[.tmp 0,.tmp 1],none,none⟩])) (.region [⟨.mov,[.loc 16],none,none⟩,⟨.bin .add,[.tmp 0,.c (.int .i64 1)],none,none⟩,
 ⟨.mov,[.tmp 1],some 16,none⟩])))))) (.seq (.region [⟨.mov,[.loc 9],none,none⟩,⟨.call 278,[.tmp 0],none,none⟩,⟨.mov,[.tmp 1],none,none⟩,⟨.extract 0,[.tmp 2],none,none⟩,⟨.extract 1,[.tmp 2],none,none⟩,⟨.mov,[.tmp 3],some 17,none⟩,⟨.mov,[.tmp 4],some 18,none⟩]) (.seq (.seq (.region [
 ⟨.mov,[.loc 9],none,none⟩,⟨.call 277,[.tmp 0],none,none⟩,⟨.not,[.tmp 1],none,none⟩,⟨.mov,[.tmp 2],none,none⟩,⟨.mov,[.loc 9],none,some (3,false)⟩,⟨.call 279,[.tmp 4],none,some (3,false)⟩,⟨.len,[.tmp 5],none,some (3,false)⟩,⟨.bin .gtr,[.tmp 6,.c (.int .i64 0)],none,some (3,false)⟩,
 ⟨.pick,[.tmp 3,.c (.bool true),.tmp 7],none,none⟩,⟨.mov,[.tmp 8],none,none⟩,⟨.mov,[.loc 18],none,some (9,false)⟩,⟨.mov,[.loc 9],none,some (9,false)⟩,⟨.call 275,[.tmp 11],none,some (9,false)⟩,⟨.bin .gtr,[.tmp 12,.c (.int .i64 0)],none,some (9,false)⟩,
 ⟨.eqv .bool true,[.tmp 10,.tmp 13],none,some (9,false)⟩,⟨.pick,[.tmp 9,.c (.bool true),.tmp 14],some 29,none⟩]) (.cond (.loc 29) (.seq (.region [⟨.mov,[.c (.bool false)],some 4,none⟩]) .ret) .skip)) (.seq (.seq (.region [⟨.mov,[.loc 18],some 30,none⟩]) (.cond (.loc 30) (.region [
 ⟨.mov,[.loc 11],none,none⟩,⟨.mov,[.loc 17],none,none⟩,⟨.lit 1 1 [.int .i64 0] [(0,1)],[.tmp 1],none,none⟩,⟨.append 1 8,[.tmp 0,.tmp 2],none,none⟩,⟨.mov,[.tmp 3],some 11,none⟩]) .skip)) (.seq (.region [⟨.mov,[.loc 11],none,none⟩,⟨.load (some 6),[.loc 3],none,none⟩,⟨.mov,[.loc 6],none,none⟩,
 ⟨.call 136,[.tmp 1,.tmp 2,.c (.int .i64 0)],none,none⟩,⟨.append 1 8,[.tmp 0,.tmp 3],none,none⟩,⟨.mov,[.tmp 4],some 11,none⟩]) (.seq (.region [⟨.mov,[.loc 11],none,none⟩,⟨.load (some 6),[.loc 3],none,none⟩,⟨.mov,[.loc 6],none,none⟩,⟨.call 136,[.tmp 1,.tmp 2,.c (.int .i64 1)],none,none⟩,
 ⟨.append 1 8,[.tmp 0,.tmp 3],none,none⟩,⟨.mov,[.tmp 4],some 11,none⟩]) (.seq (.region [⟨.mov,[.loc 7],none,none⟩,⟨.mov,[.loc 11],none,none⟩,⟨.call 280,[.tmp 0,.tmp 1],none,none⟩,⟨.mov,[.tmp 2],none,none⟩,⟨.call 268,[],none,some (3,true)⟩,⟨.pick,[.tmp 3,.tmp 4,.c (.bool false)],none,none⟩,
 ⟨.mov,[.tmp 5],some 4,none⟩]) .ret)))))))))))))))))))))))}
def cell_New:AFn:=F09.cell_New
def steal_New:AFn:={ nloc:=7,npar:=3,res:=[.loc 4],body:=(.seq (.region [⟨.box,[.loc 0],some 3,none⟩,⟨.mov,[.c (.nilp)],some 4,none⟩]) (.seq (.region [⟨.load (some 6),[.loc 3],none,none⟩,⟨.mov,[.loc 1],none,none⟩,⟨.mov,[.loc 2],none,none⟩,
 ⟨.build [.int .i64 0,.int .i64 0,.int .i64 0,.int .i64 0,.int .i64 0,.int .i64 0,.nilp,.int .i64 0,.int .i64 0,.int .i64 0,.int .u64 0,.nils,.int .i64 0] [(0,6),(7,1),(8,1)],[.tmp 0,.tmp 1,.tmp 2],none,none⟩,⟨.box,[.tmp 3],none,none⟩,⟨.mov,[.tmp 4],some 5,none⟩]) (.seq (.seq (.region [
 ⟨.load (some 6),[.loc 3],none,none⟩,⟨.mov,[.loc 1],none,none⟩,⟨.call 159,[.tmp 0,.tmp 1],none,none⟩,⟨.bin .geq,[.tmp 2,.c (.int .i64 0)],none,none⟩,⟨.mov,[.tmp 3],none,none⟩,⟨.load (some 6),[.loc 3],none,some (4,true)⟩,⟨.mov,[.loc 2],none,some (4,true)⟩,
 ⟨.call 159,[.tmp 5,.tmp 6],none,some (4,true)⟩,⟨.bin .geq,[.tmp 7,.c (.int .i64 0)],none,some (4,true)⟩,⟨.pick,[.tmp 4,.tmp 8,.c (.bool false)],none,none⟩,⟨.mov,[.tmp 9],none,none⟩,⟨.mov,[.loc 1],none,some (10,true)⟩,⟨.mov,[.loc 2],none,some (10,true)⟩,
 ⟨.bin .neq,[.tmp 11,.tmp 12],none,some (10,true)⟩,⟨.pick,[.tmp 10,.tmp 13,.c (.bool false)],some 6,none⟩]) (.cond (.loc 6) (.region [⟨.mov,[.loc 5],none,none⟩,⟨.nilc,[.tmp 0],none,none⟩,⟨.faddr 9,[.tmp 1],none,none⟩,⟨.store 1,[.tmp 2,.c (.int .i64 1)],none,none⟩]) .skip)) (.seq (.region [
 ⟨.mov,[.loc 5],none,none⟩,⟨.mov,[.tmp 0],some 4,none⟩]) .ret))))}
def steal_Steal_Got:AFn:={ nloc:=4,npar:=1,res:=[.loc 1,.loc 2],body:=(.seq (.region [⟨.mov,[.c (.int .i64 0)],some 1,none⟩,⟨.mov,[.c (.bool false)],some 2,none⟩]) (.seq (.seq (.region [⟨.mov,[.loc 0],none,none⟩,⟨.call 277,[.tmp 0],none,none⟩,⟨.not,[.tmp 1],none,none⟩,⟨.mov,[.tmp 2],none,none⟩,
 ⟨.mov,[.loc 0],none,some (3,false)⟩,⟨.call 275,[.tmp 4],none,some (3,false)⟩,⟨.bin .eql,[.tmp 5,.c (.int .i64 0)],none,some (3,false)⟩,⟨.pick,[.tmp 3,.c (.bool true),.tmp 6],some 3,none⟩]) (.cond (.loc 3) (.seq (.region [⟨.mov,[.c (.int .i64 0)],some 1,none⟩,
 ⟨.mov,[.c (.bool false)],some 2,none⟩]) .ret) .skip)) (.seq (.region [⟨.mov,[.loc 0],none,none⟩,⟨.nilc,[.tmp 0],none,none⟩,⟨.faddr 11,[.tmp 1],none,none⟩,⟨.load none,[.tmp 2],none,none⟩,⟨.iaddr 1 none,[.tmp 3,.c (.int .i64 0)],none,none⟩,⟨.load none,[.tmp 4],none,none⟩,⟨.mov,[.tmp 5],some 1,none⟩,
 ⟨.mov,[.c (.bool true)],some 2,none⟩]) .ret)))}
def steal_Steal_Done:AFn:={ nloc:=2,npar:=1,res:=[.loc 1],body:=(.seq (.region [⟨.mov,[.c (.bool false)],some 1,none⟩]) (.seq (.region [⟨.mov,[.loc 0],none,none⟩,⟨.eqv .ptr false,[.tmp 0,.c (.nilp)],none,none⟩,⟨.mov,[.tmp 1],none,none⟩,⟨.mov,[.loc 0],none,some (2,false)⟩,⟨.nilc,[.tmp 3],none,some (2,false)⟩,
 ⟨.faddr 9,[.tmp 4],none,some (2,false)⟩,⟨.load none,[.tmp 5],none,some (2,false)⟩,⟨.bin .eql,[.tmp 6,.c (.int .i64 0)],none,some (2,false)⟩,⟨.pick,[.tmp 2,.c (.bool true),.tmp 7],none,none⟩,⟨.mov,[.tmp 8],some 1,none⟩]) .ret))}
def steal_Steal_Step:AFn:={ nloc:=10,npar:=2,res:=[.loc 2],body:=(.seq (.region [⟨.mov,[.c (.bool false)],some 2,none⟩]) (.seq (.seq (.region [⟨.mov,[.loc 0],none,none⟩,⟨.call 277,[.tmp 0],some 3,none⟩]) (.cond (.loc 3) (.seq (.region [⟨.mov,[.c (.bool true)],some 2,none⟩]) .ret) .skip)) (.seq (.seq (.region [
 ⟨.mov,[.loc 0],none,none⟩,⟨.nilc,[.tmp 0],none,none⟩,⟨.faddr 9,[.tmp 1],none,none⟩,⟨.load none,[.tmp 2],some 4,none⟩]) (.block 0 (.seq (.region [⟨.bin .eql,[.loc 4,.c (.int .i64 1)],none,none⟩,⟨.mov,[.tmp 0],some 5,none⟩]) (.cond (.loc 5) (.region [⟨.mov,[.loc 0],none,none⟩,
 ⟨.mov,[.loc 1],none,none⟩,⟨.call 283,[.tmp 0,.tmp 1],none,none⟩]) (.seq (.region [⟨.bin .eql,[.loc 4,.c (.int .i64 2)],none,none⟩,⟨.mov,[.tmp 0],some 6,none⟩]) (.cond (.loc 6) (.region [⟨.mov,[.loc 0],none,none⟩,⟨.mov,[.loc 1],none,none⟩,⟨.call 284,[.tmp 0,.tmp 1],none,none⟩]) (.seq (.region [
 ⟨.bin .eql,[.loc 4,.c (.int .i64 3)],none,none⟩,⟨.mov,[.tmp 0],some 7,none⟩]) (.cond (.loc 7) (.region [⟨.mov,[.loc 0],none,none⟩,⟨.mov,[.loc 1],none,none⟩,⟨.call 285,[.tmp 0,.tmp 1],none,none⟩]) (.seq (.region [⟨.bin .eql,[.loc 4,.c (.int .i64 4)],none,none⟩,
 ⟨.mov,[.tmp 0],some 8,none⟩]) (.cond (.loc 8) (.seq (.region [⟨.mov,[.loc 0],none,none⟩,⟨.nilc,[.tmp 0],none,none⟩,⟨.faddr 6,[.tmp 1],none,none⟩,⟨.faddr 0,[.tmp 2],none,none⟩,⟨.load none,[.tmp 3],none,none⟩,⟨.mov,[.loc 1],none,none⟩,
 ⟨.call 195,[.tmp 4,.tmp 5],some 9,none⟩]) (.cond (.loc 9) (.region [⟨.mov,[.loc 0],none,none⟩,⟨.nilc,[.tmp 0],none,none⟩,⟨.faddr 9,[.tmp 1],none,none⟩,⟨.store 1,[.tmp 2,.c (.int .i64 0)],none,none⟩]) .skip)) .skip)))))))))) (.seq (.region [⟨.mov,[.loc 0],none,none⟩,⟨.nilc,[.tmp 0],none,none⟩,
 ⟨.faddr 9,[.tmp 1],none,none⟩,⟨.load none,[.tmp 2],none,none⟩,⟨.bin .eql,[.tmp 3,.c (.int .i64 0)],none,none⟩,⟨.mov,[.tmp 4],some 2,none⟩]) .ret))))}
def steal_Steal_Many:AFn:={ nloc:=3,npar:=1,res:=[.loc 1],body:=(.seq (.region [⟨.mov,[.c (.int .i64 0)],some 1,none⟩]) (.seq (.seq (.region [⟨.mov,[.loc 0],none,none⟩,⟨.eqv .ptr false,[.tmp 0,.c (.nilp)],some 2,none⟩]) (.cond (.loc 2) (.seq (.region [
 ⟨.mov,[.c (.int .i64 0)],some 1,none⟩]) .ret) .skip)) (.seq (.region [⟨.mov,[.loc 0],none,none⟩,⟨.nilc,[.tmp 0],none,none⟩,⟨.faddr 12,[.tmp 1],none,none⟩,⟨.load none,[.tmp 2],none,none⟩,⟨.mov,[.tmp 3],some 1,none⟩]) .ret)))}
def steal_Steal_Left:AFn:={ nloc:=3,npar:=1,res:=[.loc 1],body:=(.seq (.region [⟨.mov,[.c (.nils)],some 1,none⟩]) (.seq (.seq (.region [⟨.mov,[.loc 0],none,none⟩,⟨.call 277,[.tmp 0],none,none⟩,⟨.not,[.tmp 1],none,none⟩,⟨.mov,[.tmp 2],none,none⟩,⟨.mov,[.loc 0],none,some (3,false)⟩,
 ⟨.call 275,[.tmp 4],none,some (3,false)⟩,⟨.bin .eql,[.tmp 5,.c (.int .i64 0)],none,some (3,false)⟩,⟨.pick,[.tmp 3,.c (.bool true),.tmp 6],some 2,none⟩]) (.cond (.loc 2) (.seq (.region [⟨.mov,[.c (.nils)],some 1,none⟩]) .ret) .skip)) (.seq (.region [⟨.mov,[.loc 0],none,none⟩,
 ⟨.nilc,[.tmp 0],none,none⟩,⟨.faddr 6,[.tmp 1],none,none⟩,⟨.load (some 1),[.tmp 2],none,none⟩,⟨.call 286,[.tmp 3],none,none⟩,⟨.mov,[.tmp 4],some 1,none⟩]) .ret)))}
def steal_Steal_Hands:AFn:={ nloc:=3,npar:=1,res:=[.loc 1],body:=(.seq (.region [⟨.mov,[.c (.nils)],some 1,none⟩]) (.seq (.seq (.region [⟨.mov,[.loc 0],none,none⟩,⟨.call 275,[.tmp 0],none,none⟩,⟨.bin .eql,[.tmp 1,.c (.int .i64 0)],some 2,none⟩]) (.cond (.loc 2) (.seq (.region [
 ⟨.mov,[.c (.nils)],some 1,none⟩]) .ret) .skip)) (.seq (.draw [0,1,2,3,4,5,6,7,8,9,10,11,12] 0 [⟨.mov,[.loc 0],none,none⟩,⟨.nilc,[.tmp 0],none,none⟩,⟨.faddr 11,[.tmp 1],none,none⟩,⟨.load none,[.tmp 2],none,none⟩,⟨.slice 1 false true false,[.tmp 3,.c (.int .i64 1)],none,none⟩,
 ⟨.mov,[.loc 0],none,none⟩,⟨.nilc,[.tmp 5],none,none⟩,⟨.faddr 6,[.tmp 6],none,none⟩,⟨.load (some 1),[.tmp 7],none,none⟩,⟨.call 286,[.tmp 8],none,none⟩,⟨.lit 2 1 [.nils] [(0,1),(1,1)],[.tmp 4,.tmp 9],none,none⟩,⟨.call 287,[.tmp 10],none,none⟩,⟨.mov,[.tmp 11],some 1,none⟩] [(3,[10]),(4,[10])]) .ret)))}
def cell_Mem_Ops:AFn:=F09.cell_Mem_Ops
def law11_works:AFn:={ nloc:=14,npar:=0,res:=[.loc 0],body:=(.seq (.region [⟨.mov,[.c (.bool false)],some 0,none⟩]) (.seq (.region [⟨.call 281,[],none,none⟩,⟨.mov,[.tmp 0],none,none⟩,⟨.extract 0,[.tmp 1],none,none⟩,⟨.extract 1,[.tmp 1],none,none⟩,
 ⟨.alloc [.int .i64 0,.int .i64 0,.int .i64 0,.int .i64 0,.int .i64 0,.int .i64 0],[],some 1,none⟩,⟨.store 6,[.tmp 4,.tmp 2],none,none⟩,⟨.mov,[.tmp 3],some 2,none⟩]) (.seq (.region [⟨.load (some 6),[.loc 1],none,none⟩,⟨.call 270,[.tmp 0,.c (.int .i64 0),.c (.int .i64 1)],none,none⟩,
 ⟨.mov,[.tmp 1],some 3,none⟩]) (.seq (.region [⟨.mov,[.c (.int .i64 1)],some 4,none⟩]) (.seq (.block 0 (.loop (.seq (.seq (.region [⟨.mov,[.loc 3],none,none⟩,⟨.mov,[.loc 2],none,none⟩,⟨.call 274,[.tmp 0,.tmp 1],none,none⟩,⟨.not,[.tmp 2],none,none⟩,⟨.mov,[.tmp 3],none,none⟩,
 ⟨.mov,[.loc 4],none,some (4,true)⟩,⟨.bin .lss,[.tmp 5,.c (.int .i64 20)],none,some (4,true)⟩,⟨.pick,[.tmp 4,.tmp 6,.c (.bool false)],some 11,none⟩]) (.cond (.loc 11) .skip (.exit 0))) (.block 1 (.region [⟨.mov,[.loc 4],none,none⟩,⟨.bin .add,[.tmp 0,.c (.int .i64 1)],none,none⟩,
 ⟨.mov,[.tmp 1],some 4,none⟩]))))) (.seq (.region [⟨.mov,[.loc 3],none,none⟩,⟨.call 278,[.tmp 0],none,none⟩,⟨.mov,[.tmp 1],none,none⟩,⟨.extract 0,[.tmp 2],none,none⟩,⟨.extract 1,[.tmp 2],none,none⟩,⟨.mov,[.tmp 3],some 5,none⟩,⟨.mov,[.tmp 4],some 6,none⟩]) (.seq (.seq (.region [
 ⟨.mov,[.loc 4],none,none⟩,⟨.bin .neq,[.tmp 0,.c (.int .i64 7)],none,none⟩,⟨.mov,[.tmp 1],none,none⟩,⟨.mov,[.loc 5],none,some (2,false)⟩,⟨.bin .neq,[.tmp 3,.c (.int .i64 5)],none,some (2,false)⟩,⟨.pick,[.tmp 2,.c (.bool true),.tmp 4],none,none⟩,⟨.mov,[.tmp 5],none,none⟩,
 ⟨.mov,[.loc 6],none,some (6,false)⟩,⟨.not,[.tmp 7],none,some (6,false)⟩,⟨.pick,[.tmp 6,.c (.bool true),.tmp 8],none,none⟩,⟨.mov,[.tmp 9],none,none⟩,⟨.mov,[.loc 3],none,some (10,false)⟩,⟨.call 275,[.tmp 11],none,some (10,false)⟩,⟨.bin .neq,[.tmp 12,.c (.int .i64 2)],none,some (10,false)⟩,
 ⟨.pick,[.tmp 10,.c (.bool true),.tmp 13],none,none⟩,⟨.mov,[.tmp 14],none,none⟩,⟨.load (some 6),[.loc 1],none,some (15,false)⟩,⟨.mov,[.loc 2],none,some (15,false)⟩,⟨.call 136,[.tmp 16,.tmp 17,.c (.int .i64 0)],none,some (15,false)⟩,
 ⟨.lit 1 1 [.int .i64 0] [(0,1)],[.c (.int .i64 6)],none,some (15,false)⟩,⟨.call 84,[.tmp 18,.tmp 19],none,some (15,false)⟩,⟨.not,[.tmp 20],none,some (15,false)⟩,⟨.pick,[.tmp 15,.c (.bool true),.tmp 21],none,none⟩,⟨.mov,[.tmp 22],none,none⟩,⟨.load (some 6),[.loc 1],none,some (23,false)⟩,
 ⟨.mov,[.loc 2],none,some (23,false)⟩,⟨.call 136,[.tmp 24,.tmp 25,.c (.int .i64 1)],none,some (23,false)⟩,⟨.lit 1 1 [.int .i64 0] [(0,1)],[.c (.int .i64 7)],none,some (23,false)⟩,⟨.call 84,[.tmp 26,.tmp 27],none,some (23,false)⟩,⟨.not,[.tmp 28],none,some (23,false)⟩,
 ⟨.pick,[.tmp 23,.c (.bool true),.tmp 29],some 12,none⟩]) (.cond (.loc 12) (.seq (.region [⟨.mov,[.c (.bool false)],some 0,none⟩]) .ret) .skip)) (.seq (.region [⟨.call 281,[],none,none⟩,⟨.mov,[.tmp 0],none,none⟩,⟨.extract 0,[.tmp 1],none,none⟩,⟨.extract 1,[.tmp 1],none,none⟩,
 ⟨.alloc [.int .i64 0,.int .i64 0,.int .i64 0,.int .i64 0,.int .i64 0,.int .i64 0],[],none,none⟩,⟨.store 6,[.tmp 4,.tmp 2],none,none⟩,⟨.mov,[.tmp 3],some 7,none⟩]) (.seq (.region [⟨.load (some 6),[.loc 1],none,none⟩,⟨.call 270,[.tmp 0,.c (.int .i64 0),.c (.int .i64 1)],none,none⟩,
 ⟨.mov,[.tmp 1],some 8,none⟩]) (.seq (.region [⟨.mov,[.loc 8],none,none⟩,⟨.mov,[.loc 7],none,none⟩,⟨.call 274,[.tmp 0,.tmp 1],none,none⟩]) (.seq (.region [⟨.load (some 6),[.loc 1],none,none⟩,⟨.mov,[.loc 7],none,none⟩,
 ⟨.call 139,[.tmp 0,.tmp 1,.c (.int .i64 1),.c (.int .i64 1)],none,none⟩]) (.seq (.region [⟨.mov,[.c (.int .i64 2)],some 4,none⟩]) (.seq (.block 2 (.loop (.seq (.seq (.region [⟨.mov,[.loc 8],none,none⟩,⟨.mov,[.loc 7],none,none⟩,⟨.call 274,[.tmp 0,.tmp 1],none,none⟩,⟨.not,[.tmp 2],none,none⟩,
 ⟨.mov,[.tmp 3],none,none⟩,⟨.mov,[.loc 4],none,some (4,true)⟩,⟨.bin .lss,[.tmp 5,.c (.int .i64 20)],none,some (4,true)⟩,⟨.pick,[.tmp 4,.tmp 6,.c (.bool false)],some 13,none⟩]) (.cond (.loc 13) .skip (.exit 2))) (.block 3 (.region [⟨.mov,[.loc 4],none,none⟩,
 ⟨.bin .add,[.tmp 0,.c (.int .i64 1)],none,none⟩,⟨.mov,[.tmp 1],some 4,none⟩]))))) (.seq (.region [⟨.mov,[.loc 8],none,none⟩,⟨.call 278,[.tmp 0],none,none⟩,⟨.mov,[.tmp 1],none,none⟩,⟨.extract 0,[.tmp 2],none,none⟩,⟨.extract 1,[.tmp 2],none,none⟩,⟨.mov,[.tmp 3],some 9,none⟩,
 ⟨.mov,[.tmp 4],some 10,none⟩]) (.seq (.region [⟨.mov,[.loc 4],none,none⟩,⟨.bin .eql,[.tmp 0,.c (.int .i64 7)],none,none⟩,⟨.mov,[.tmp 1],none,none⟩,⟨.mov,[.loc 9],none,some (2,true)⟩,⟨.bin .eql,[.tmp 3,.c (.int .i64 6)],none,some (2,true)⟩,⟨.pick,[.tmp 2,.tmp 4,.c (.bool false)],none,none⟩,
 ⟨.mov,[.tmp 5],none,none⟩,⟨.mov,[.loc 10],none,some (6,true)⟩,⟨.pick,[.tmp 6,.tmp 7,.c (.bool false)],none,none⟩,⟨.mov,[.tmp 8],none,none⟩,⟨.mov,[.loc 8],none,some (9,true)⟩,⟨.call 275,[.tmp 10],none,some (9,true)⟩,⟨.bin .eql,[.tmp 11,.c (.int .i64 1)],none,some (9,true)⟩,
 ⟨.pick,[.tmp 9,.tmp 12,.c (.bool false)],none,none⟩,⟨.mov,[.tmp 13],none,none⟩,⟨.load (some 6),[.loc 1],none,some (14,true)⟩,⟨.mov,[.loc 7],none,some (14,true)⟩,⟨.call 136,[.tmp 15,.tmp 16,.c (.int .i64 1)],none,some (14,true)⟩,⟨.lit 1 1 [.int .i64 0] [(0,1)],[.c (.int .i64 7)],none,some (14,true)⟩,
 ⟨.call 84,[.tmp 17,.tmp 18],none,some (14,true)⟩,⟨.pick,[.tmp 14,.tmp 19,.c (.bool false)],none,none⟩,⟨.mov,[.tmp 20],some 0,none⟩]) .ret)))))))))))))))}
def docs_Mem:AFn:=F09.docs_Mem
def docs_Filled:AFn:=F09.docs_Filled
def ref11_New:AFn:={ nloc:=6,npar:=3,res:=[.cell 4 (some 24)],body:=(.seq (.region [⟨.box,[.loc 0],some 3,none⟩,
 ⟨.alloc [.int .i64 0,.int .i64 0,.int .i64 0,.int .i64 0,.int .i64 0,.int .i64 0,.int .i64 0,.int .i64 0,.int .i64 0,.int .u64 0,.nils,.int .i64 0,.int .i64 0,.int .i64 0,.int .i64 0,.int .i64 0,.int .i64 0,.int .i64 0,.int .i64 0,.nils,.int .i64 0,.int .u64 0,.int .i64 0,.int .i64 0],[],some 4,none⟩]) (.seq (.seq (.region [
 ⟨.load (some 6),[.loc 3],none,none⟩,⟨.mov,[.loc 1],none,none⟩,⟨.call 169,[.tmp 0,.tmp 1],none,none⟩,⟨.not,[.tmp 2],none,none⟩,⟨.mov,[.tmp 3],none,none⟩,⟨.load (some 6),[.loc 3],none,some (4,false)⟩,⟨.mov,[.loc 2],none,some (4,false)⟩,⟨.call 169,[.tmp 5,.tmp 6],none,some (4,false)⟩,
 ⟨.not,[.tmp 7],none,some (4,false)⟩,⟨.pick,[.tmp 4,.c (.bool true),.tmp 8],none,none⟩,⟨.mov,[.tmp 9],none,none⟩,⟨.mov,[.loc 1],none,some (10,false)⟩,⟨.mov,[.loc 2],none,some (10,false)⟩,⟨.bin .eql,[.tmp 11,.tmp 12],none,some (10,false)⟩,
 ⟨.pick,[.tmp 10,.c (.bool true),.tmp 13],some 5,none⟩]) (.cond (.loc 5) (.seq (.region [
 ⟨.build [.int .i64 0,.int .i64 0,.int .i64 0,.int .i64 0,.int .i64 0,.int .i64 0,.int .i64 0,.int .i64 0,.int .i64 0,.int .u64 0,.nils,.int .i64 0,.int .i64 0,.int .i64 0,.int .i64 0,.int .i64 0,.int .i64 0,.int .i64 0,.int .i64 0,.nils,.int .i64 0,.int .u64 0,.int .i64 0,.int .i64 0] [],[],none,none⟩,
 ⟨.store 24,[.loc 4,.tmp 0],none,none⟩]) .ret) .skip)) (.seq (.region [⟨.load (some 6),[.loc 3],none,none⟩,⟨.mov,[.loc 1],none,none⟩,⟨.mov,[.loc 2],none,none⟩,
 ⟨.build [.int .i64 0,.int .i64 0,.int .i64 0,.int .i64 0,.int .i64 0,.int .i64 0,.int .i64 0,.int .i64 0,.int .i64 0,.int .u64 0,.nils,.int .i64 0,.int .i64 0,.int .i64 0,.int .i64 0,.int .i64 0,.int .i64 0,.int .i64 0,.int .i64 0,.nils,.int .i64 0,.int .u64 0,.int .i64 0,.int .i64 0] [(0,6),(6,1),(7,1),(8,1)],[.tmp 0,.tmp 1,.tmp 2,.c (.int .i64 1)],none,none⟩,
 ⟨.store 24,[.loc 4,.tmp 3],none,none⟩]) .ret)))}
def docs_Config:AFn:=F09.docs_Config
def law11_is:AFn:={ nloc:=16,npar:=2,res:=[.loc 3],body:=(.seq (.region [⟨.box,[.loc 1],some 2,none⟩,⟨.mov,[.c (.bool false)],some 3,none⟩]) (.seq (.region [⟨.mov,[.loc 0],none,none⟩,⟨.call 276,[.tmp 0],none,none⟩,⟨.mov,[.loc 0],none,none⟩,⟨.call 279,[.tmp 2],none,none⟩,⟨.mov,[.tmp 1],some 4,none⟩,
 ⟨.mov,[.tmp 3],some 5,none⟩]) (.seq (.region [⟨.mov,[.loc 0],none,none⟩,⟨.call 278,[.tmp 0],none,none⟩,⟨.mov,[.tmp 1],none,none⟩,⟨.extract 0,[.tmp 2],none,none⟩,⟨.extract 1,[.tmp 2],none,none⟩,⟨.mov,[.tmp 3],some 6,none⟩,⟨.mov,[.tmp 4],some 7,none⟩]) (.seq (.region [
 ⟨.mov,[.c (.nils)],some 8,none⟩]) (.seq (.region [⟨.faddr 8,[.loc 2],none,none⟩,⟨.load none,[.tmp 0],none,none⟩,⟨.bin .eql,[.tmp 1,.c (.int .i64 0)],none,none⟩,⟨.mov,[.tmp 2],none,none⟩,⟨.faddr 11,[.loc 2],none,some (3,true)⟩,⟨.load none,[.tmp 4],none,some (3,true)⟩,
 ⟨.bin .gtr,[.tmp 5,.c (.int .i64 0)],none,some (3,true)⟩,⟨.pick,[.tmp 3,.tmp 6,.c (.bool false)],none,none⟩,⟨.mov,[.tmp 7],some 9,none⟩]) (.seq (.seq (.region [⟨.mov,[.loc 9],some 12,none⟩]) (.cond (.loc 12) (.region [⟨.faddr 12,[.loc 2],none,none⟩,⟨.faddr 7,[.tmp 0],none,none⟩,
 ⟨.load none,[.tmp 1],none,none⟩,⟨.mov,[.tmp 2],some 8,none⟩]) .skip)) (.seq (.seq (.draw [0,1,2,3,4,5,6,7,8,9,10,11,12,13,14,15,16,17,18,19,20,21,22,23,24,25,26,27,28,29,30,31,32,33,34,35,36,37,38,39,40,41,42,43,44,45,46,47,48,49] 0 [⟨.mov,[.loc 4],none,none⟩,⟨.load (some 24),[.loc 2],none,none⟩,
 ⟨.call 282,[.tmp 1],none,none⟩,⟨.call 84,[.tmp 0,.tmp 2],none,none⟩,⟨.not,[.tmp 3],none,none⟩,⟨.mov,[.tmp 4],none,none⟩,⟨.mov,[.loc 5],none,some (5,false)⟩,⟨.mov,[.loc 8],none,some (5,false)⟩,⟨.call 84,[.tmp 6,.tmp 7],none,some (5,false)⟩,⟨.not,[.tmp 8],none,some (5,false)⟩,
 ⟨.pick,[.tmp 5,.c (.bool true),.tmp 9],none,none⟩,⟨.mov,[.tmp 10],none,none⟩,⟨.mov,[.loc 0],none,some (11,false)⟩,⟨.call 275,[.tmp 12],none,some (11,false)⟩,⟨.faddr 11,[.loc 2],none,some (11,false)⟩,⟨.load none,[.tmp 14],none,some (11,false)⟩,⟨.bin .neq,[.tmp 13,.tmp 15],none,some (11,false)⟩,
 ⟨.pick,[.tmp 11,.c (.bool true),.tmp 16],none,none⟩,⟨.mov,[.tmp 17],none,none⟩,⟨.mov,[.loc 7],none,some (18,false)⟩,⟨.mov,[.loc 9],none,some (18,false)⟩,⟨.eqv .bool true,[.tmp 19,.tmp 20],none,some (18,false)⟩,⟨.pick,[.tmp 18,.c (.bool true),.tmp 21],none,none⟩,⟨.mov,[.tmp 22],none,none⟩,
 ⟨.mov,[.loc 9],none,some (23,false)⟩,⟨.mov,[.tmp 24],none,some (23,false)⟩,⟨.mov,[.loc 6],none,some (25,true)⟩,⟨.faddr 10,[.loc 2],none,some (25,true)⟩,⟨.load none,[.tmp 27],none,some (25,true)⟩,⟨.iaddr 1 none,[.tmp 28,.c (.int .i64 0)],none,some (25,true)⟩,
 ⟨.load none,[.tmp 29],none,some (25,true)⟩,⟨.bin .neq,[.tmp 26,.tmp 30],none,some (25,true)⟩,⟨.pick,[.tmp 25,.tmp 31,.c (.bool false)],none,some (23,false)⟩,⟨.pick,[.tmp 23,.c (.bool true),.tmp 32],none,none⟩,⟨.mov,[.tmp 33],none,none⟩,⟨.mov,[.loc 9],none,some (34,false)⟩,
 ⟨.not,[.tmp 35],none,some (34,false)⟩,⟨.mov,[.tmp 36],none,some (34,false)⟩,⟨.mov,[.loc 6],none,some (37,true)⟩,⟨.bin .neq,[.tmp 38,.c (.int .i64 0)],none,some (37,true)⟩,⟨.pick,[.tmp 37,.tmp 39,.c (.bool false)],none,some (34,false)⟩,⟨.pick,[.tmp 34,.c (.bool true),.tmp 40],none,none⟩,
 ⟨.mov,[.tmp 41],none,none⟩,⟨.mov,[.loc 0],none,some (42,false)⟩,⟨.call 277,[.tmp 43],none,some (42,false)⟩,⟨.faddr 8,[.loc 2],none,some (42,false)⟩,⟨.load none,[.tmp 45],none,some (42,false)⟩,⟨.bin .eql,[.tmp 46,.c (.int .i64 0)],none,some (42,false)⟩,
 ⟨.eqv .bool true,[.tmp 44,.tmp 47],none,some (42,false)⟩,⟨.pick,[.tmp 42,.c (.bool true),.tmp 48],some 13,none⟩] [(15,[9]),(46,[14])]) (.cond (.loc 13) (.seq (.region [⟨.mov,[.c (.bool false)],some 3,none⟩]) .ret) .skip)) (.seq (.seq (.region [
 ⟨.mov,[.c (.int .i64 0)],some 10,none⟩]) (.block 0 (.loop (.seq (.seq (.region [⟨.mov,[.loc 10],none,none⟩,⟨.mov,[.loc 4],none,none⟩,⟨.len,[.tmp 1],none,none⟩,⟨.bin .lss,[.tmp 0,.tmp 2],some 14,none⟩]) (.cond (.loc 14) .skip (.exit 0))) (.seq (.block 1 (.region [⟨.mov,[.loc 4],none,none⟩,
 ⟨.mov,[.loc 10],none,none⟩,⟨.iaddr 1 none,[.tmp 0,.tmp 1],none,none⟩,⟨.store 1,[.tmp 2,.c (.int .i64 77)],none,none⟩])) (.region [⟨.mov,[.loc 10],none,none⟩,⟨.bin .add,[.tmp 0,.c (.int .i64 1)],none,none⟩,⟨.mov,[.tmp 1],some 10,none⟩])))))) (.seq (.seq (.region [
 ⟨.mov,[.c (.int .i64 0)],some 11,none⟩]) (.block 2 (.loop (.seq (.seq (.region [⟨.mov,[.loc 11],none,none⟩,⟨.mov,[.loc 5],none,none⟩,⟨.len,[.tmp 1],none,none⟩,⟨.bin .lss,[.tmp 0,.tmp 2],some 15,none⟩]) (.cond (.loc 15) .skip (.exit 2))) (.seq (.block 3 (.region [⟨.mov,[.loc 5],none,none⟩,
 ⟨.mov,[.loc 11],none,none⟩,⟨.iaddr 1 none,[.tmp 0,.tmp 1],none,none⟩,⟨.store 1,[.tmp 2,.c (.int .i64 77)],none,none⟩])) (.region [⟨.mov,[.loc 11],none,none⟩,⟨.bin .add,[.tmp 0,.c (.int .i64 1)],none,none⟩,⟨.mov,[.tmp 1],some 11,none⟩])))))) (.seq (.region [
 ⟨.mov,[.c (.bool true)],some 3,none⟩]) .ret))))))))))}
def docs_SameMem:AFn:=F09.docs_SameMem
def ref11_Step:AFn:={ nloc:=25,npar:=2,res:=[.cell 4 (some 24),.cell 5 (some 2)],body:=(.seq (.region [⟨.box,[.loc 0],some 2,none⟩,⟨.box,[.loc 1],some 3,none⟩,
 ⟨.alloc [.int .i64 0,.int .i64 0,.int .i64 0,.int .i64 0,.int .i64 0,.int .i64 0,.int .i64 0,.int .i64 0,.int .i64 0,.int .u64 0,.nils,.int .i64 0,.int .i64 0,.int .i64 0,.int .i64 0,.int .i64 0,.int .i64 0,.int .i64 0,.int .i64 0,.nils,.int .i64 0,.int .u64 0,.int .i64 0,.int .i64 0],[],some 4,none⟩,
 ⟨.alloc [.nils,.int .u64 0],[],some 5,none⟩]) (.seq (.region [⟨.faddr 9,[.loc 2],none,none⟩,⟨.load none,[.tmp 0],none,none⟩,⟨.call 173,[.tmp 1],none,none⟩,⟨.mov,[.tmp 2],some 6,none⟩]) (.seq (.region [⟨.mov,[.loc 6],none,none⟩,⟨.mov,[.loc 6],none,none⟩,
 ⟨.bin .quo,[.tmp 1,.c (.int .u32 2)],none,none⟩,⟨.bin .sub,[.tmp 0,.tmp 2],none,none⟩,⟨.mov,[.tmp 3],some 7,none⟩]) (.seq (.draw [0,1,2,3,4,5,6,7] 0 [⟨.faddr 9,[.loc 2],none,none⟩,⟨.load none,[.tmp 0],none,none⟩,⟨.call 170,[.tmp 1],none,none⟩,⟨.faddr 9,[.loc 2],none,none⟩,
 ⟨.load none,[.tmp 3],none,none⟩,⟨.call 171,[.tmp 4],none,none⟩,⟨.mov,[.tmp 2],some 8,none⟩,⟨.mov,[.tmp 5],some 9,none⟩] [(4,[0])]) (.seq (.seq (.region [⟨.faddr 8,[.loc 2],none,none⟩,⟨.load none,[.tmp 0],some 15,none⟩]) (.block 0 (.seq (.region [⟨.bin .eql,[.loc 15,.c (.int .i64 1)],none,none⟩,
 ⟨.mov,[.tmp 0],some 16,none⟩]) (.cond (.loc 16) (.seq (.draw [0,1,2,3,4,5,6,7,8,9,10,11,12] 0 [⟨.load (some 2),[.loc 3],none,none⟩,⟨.faddr 0,[.loc 2],none,none⟩,⟨.load (some 6),[.tmp 1],none,none⟩,⟨.faddr 7,[.loc 2],none,none⟩,⟨.load none,[.tmp 3],none,none⟩,⟨.call 172,[.tmp 2,.tmp 4],none,none⟩,
 ⟨.call 64,[.tmp 0,.tmp 5],none,none⟩,⟨.mov,[.tmp 6],none,none⟩,⟨.extract 0,[.tmp 7],none,none⟩,⟨.extract 1,[.tmp 7],none,none⟩,⟨.store 2,[.loc 3,.tmp 8],none,none⟩,⟨.faddr 9,[.loc 2],none,none⟩,⟨.store 1,[.tmp 11,.tmp 9],none,none⟩] [(0,[6])]) (.seq (.region [⟨.faddr 9,[.loc 2],none,none⟩,
 ⟨.load none,[.tmp 0],none,none⟩,⟨.call 173,[.tmp 1],none,none⟩,⟨.mov,[.tmp 2],some 6,none⟩]) (.seq (.region [⟨.faddr 10,[.loc 2],none,none⟩,⟨.store 1,[.tmp 0,.c (.nils)],none,none⟩]) (.seq (.region [⟨.faddr 8,[.loc 2],none,none⟩,⟨.store 1,[.tmp 0,.c (.int .i64 2)],none,none⟩]) (.seq (.region [
 ⟨.mov,[.loc 6],none,none⟩,⟨.bin .eql,[.tmp 0,.c (.int .u32 0)],none,none⟩,⟨.mov,[.tmp 1],none,none⟩,⟨.mov,[.loc 6],none,some (2,false)⟩,⟨.faddr 0,[.loc 2],none,some (2,false)⟩,⟨.faddr 1,[.tmp 4],none,some (2,false)⟩,⟨.load none,[.tmp 5],none,some (2,false)⟩,⟨.conv .u32,[.tmp 6],none,some (2,false)⟩,
 ⟨.bin .gtr,[.tmp 3,.tmp 7],none,some (2,false)⟩,⟨.pick,[.tmp 2,.c (.bool true),.tmp 8],some 17,none⟩]) (.cond (.loc 17) (.region [⟨.faddr 8,[.loc 2],none,none⟩,⟨.store 1,[.tmp 0,.c (.int .i64 0)],none,none⟩]) .skip)))))) (.seq (.region [⟨.bin .eql,[.loc 15,.c (.int .i64 2)],none,none⟩,
 ⟨.mov,[.tmp 0],some 18,none⟩]) (.cond (.loc 18) (.seq (.draw [16,0,1,2,3,4,5,6,7,8,9,10,11,12,13,14,15,17,18] 1 [⟨.alloc [.nils,.int .u64 0],[],some 10,none⟩,⟨.load (some 2),[.loc 3],none,none⟩,⟨.faddr 0,[.loc 2],none,none⟩,⟨.load (some 6),[.tmp 2],none,none⟩,⟨.faddr 7,[.loc 2],none,none⟩,
 ⟨.load none,[.tmp 4],none,none⟩,⟨.mov,[.loc 8],none,none⟩,⟨.faddr 10,[.loc 2],none,none⟩,⟨.load none,[.tmp 7],none,none⟩,⟨.len,[.tmp 8],none,none⟩,⟨.conv .u32,[.tmp 9],none,none⟩,⟨.bin .add,[.tmp 6,.tmp 10],none,none⟩,⟨.call 174,[.tmp 3,.tmp 5,.tmp 11],none,none⟩,
 ⟨.call 64,[.tmp 1,.tmp 12],none,none⟩,⟨.mov,[.tmp 13],none,none⟩,⟨.extract 0,[.tmp 14],none,none⟩,⟨.extract 1,[.tmp 14],none,none⟩,⟨.store 2,[.tmp 0,.tmp 15],none,none⟩,⟨.mov,[.tmp 16],some 11,none⟩] [(0,[1,13,14]),(1,[13])]) (.seq (.region [⟨.load (some 2),[.loc 10],none,none⟩,
 ⟨.store 2,[.loc 3,.tmp 0],none,none⟩]) (.seq (.region [⟨.mov,[.c (.nils)],some 12,none⟩]) (.seq (.region [⟨.mov,[.loc 12],none,none⟩,⟨.faddr 10,[.loc 2],none,none⟩,⟨.load none,[.tmp 1],none,none⟩,⟨.append 1 8,[.tmp 0,.tmp 2],none,none⟩,⟨.mov,[.tmp 3],some 12,none⟩]) (.seq (.region [
 ⟨.mov,[.loc 12],none,none⟩,⟨.mov,[.loc 11],none,none⟩,⟨.conv .i64,[.tmp 1],none,none⟩,⟨.lit 1 1 [.int .i64 0] [(0,1)],[.tmp 2],none,none⟩,⟨.append 1 8,[.tmp 0,.tmp 3],none,none⟩,⟨.faddr 10,[.loc 2],none,none⟩,⟨.store 1,[.tmp 5,.tmp 4],none,none⟩]) (.seq (.region [⟨.faddr 10,[.loc 2],none,none⟩,
 ⟨.load none,[.tmp 0],none,none⟩,⟨.len,[.tmp 1],none,none⟩,⟨.conv .u32,[.tmp 2],none,none⟩,⟨.mov,[.loc 7],none,none⟩,⟨.bin .eql,[.tmp 3,.tmp 4],some 19,none⟩]) (.cond (.loc 19) (.region [⟨.faddr 8,[.loc 2],none,none⟩,⟨.store 1,[.tmp 0,.c (.int .i64 3)],none,none⟩]) .skip))))))) (.seq (.region [
 ⟨.bin .eql,[.loc 15,.c (.int .i64 3)],none,none⟩,⟨.mov,[.tmp 0],some 20,none⟩]) (.cond (.loc 20) (.seq (.draw [17,0,1,2,3,4,5,6,7,8,9,10,11,12,13,14,15,16,18,19] 1 [⟨.alloc [.nils,.int .u64 0],[],some 13,none⟩,⟨.load (some 2),[.loc 3],none,none⟩,⟨.faddr 0,[.loc 2],none,none⟩,
 ⟨.load (some 6),[.tmp 2],none,none⟩,⟨.faddr 7,[.loc 2],none,none⟩,⟨.load none,[.tmp 4],none,none⟩,⟨.call 172,[.tmp 3,.tmp 5],none,none⟩,⟨.faddr 9,[.loc 2],none,none⟩,⟨.load none,[.tmp 7],none,none⟩,⟨.mov,[.loc 8],none,none⟩,⟨.mov,[.loc 7],none,none⟩,⟨.bin .add,[.tmp 9,.tmp 10],none,none⟩,
 ⟨.mov,[.loc 9],none,none⟩,⟨.call 175,[.tmp 11,.tmp 12],none,none⟩,⟨.call 66,[.tmp 1,.tmp 6,.tmp 8,.tmp 13],none,none⟩,⟨.mov,[.tmp 14],none,none⟩,⟨.extract 0,[.tmp 15],none,none⟩,⟨.extract 1,[.tmp 15],none,none⟩,⟨.store 2,[.tmp 0,.tmp 16],none,none⟩,
 ⟨.mov,[.tmp 17],some 14,none⟩] [(0,[1,7,14,15]),(1,[7,14]),(8,[1,14])]) (.seq (.region [⟨.load (some 2),[.loc 13],none,none⟩,⟨.store 2,[.loc 3,.tmp 0],none,none⟩]) (.seq (.region [⟨.faddr 8,[.loc 2],none,none⟩,⟨.store 1,[.tmp 0,.c (.int .i64 1)],none,none⟩]) (.seq (.region [
 ⟨.mov,[.loc 14],some 21,none⟩]) (.cond (.loc 21) (.seq (.region [⟨.mov,[.loc 7],none,none⟩,⟨.conv .i64,[.tmp 0],none,none⟩,⟨.faddr 11,[.loc 2],none,none⟩,⟨.store 1,[.tmp 2,.tmp 1],none,none⟩]) (.seq (.region [⟨.faddr 0,[.loc 2],none,none⟩,⟨.load (some 6),[.tmp 0],none,none⟩,
 ⟨.faddr 6,[.loc 2],none,none⟩,⟨.load none,[.tmp 2],none,none⟩,⟨.faddr 10,[.loc 2],none,none⟩,⟨.load none,[.tmp 4],none,none⟩,⟨.slice 1 true false false,[.tmp 5,.c (.int .i64 1)],none,none⟩,⟨.call 201,[.tmp 1,.tmp 3,.tmp 6],none,none⟩,⟨.faddr 12,[.loc 2],none,none⟩,
 ⟨.store 12,[.tmp 8,.tmp 7],none,none⟩]) (.seq (.region [⟨.faddr 8,[.loc 2],none,none⟩,⟨.store 1,[.tmp 0,.c (.int .i64 4)],none,none⟩]) (.seq (.region [⟨.mov,[.loc 7],none,none⟩,⟨.bin .eql,[.tmp 0,.c (.int .u32 1)],some 22,none⟩]) (.cond (.loc 22) (.region [⟨.faddr 8,[.loc 2],none,none⟩,
 ⟨.store 1,[.tmp 0,.c (.int .i64 0)],none,none⟩]) .skip))))) (.region [⟨.faddr 10,[.loc 2],none,none⟩,⟨.store 1,[.tmp 0,.c (.nils)],none,none⟩])))))) (.seq (.region [⟨.bin .eql,[.loc 15,.c (.int .i64 4)],none,none⟩,⟨.mov,[.tmp 0],some 23,none⟩]) (.cond (.loc 23) (.seq (.region [
 ⟨.faddr 12,[.loc 2],none,none⟩,⟨.load (some 12),[.tmp 0],none,none⟩,⟨.load (some 2),[.loc 3],none,none⟩,⟨.call 202,[.tmp 1,.tmp 2],none,none⟩,⟨.mov,[.tmp 3],none,none⟩,⟨.extract 0,[.tmp 4],none,none⟩,⟨.extract 1,[.tmp 4],none,none⟩,⟨.faddr 12,[.loc 2],none,none⟩,
 ⟨.store 12,[.tmp 7,.tmp 5],none,none⟩,⟨.store 2,[.loc 3,.tmp 6],none,none⟩]) (.seq (.region [⟨.faddr 12,[.loc 2],none,none⟩,⟨.faddr 8,[.tmp 0],none,none⟩,⟨.load none,[.tmp 1],none,none⟩,⟨.bin .eql,[.tmp 2,.c (.int .i64 0)],some 24,none⟩]) (.cond (.loc 24) (.region [⟨.faddr 8,[.loc 2],none,none⟩,
 ⟨.store 1,[.tmp 0,.c (.int .i64 0)],none,none⟩]) .skip))) .skip)))))))))) (.seq (.draw [0,1,2,3] 0 [⟨.load (some 24),[.loc 2],none,none⟩,⟨.load (some 2),[.loc 3],none,none⟩,⟨.store 24,[.loc 4,.tmp 0],none,none⟩,⟨.store 2,[.loc 5,.tmp 1],none,none⟩] [(1,[3])]) .ret))))))}
def kit_Pick:AFn:=F09.kit_Pick
def cell_Mem_Store:AFn:=F09.cell_Mem_Store
def ref06_Store:AFn:=F09.ref06_Store
def docs_Made:AFn:=F09.docs_Made
def conf_Config_Word:AFn:=F09.conf_Config_Word
def docs_Ring:AFn:=F09.docs_Ring
def put_New:AFn:=F09.put_New
def kit_SameInts:AFn:=F09.kit_SameInts
def put_Put_Step:AFn:=F09.put_Put_Step
def put_Put_Over:AFn:=F09.put_Put_Over
def docs_Thief:AFn:=F09.docs_Thief
def law11_same:AFn:={ nloc:=13,npar:=2,res:=[.loc 2],body:=(.seq (.region [⟨.mov,[.c (.bool false)],some 2,none⟩]) (.seq (.seq (.region [⟨.mov,[.loc 0],none,none⟩,⟨.len,[.tmp 0],none,none⟩,⟨.mov,[.loc 1],none,none⟩,⟨.len,[.tmp 2],none,none⟩,
 ⟨.bin .neq,[.tmp 1,.tmp 3],some 7,none⟩]) (.cond (.loc 7) (.seq (.region [⟨.mov,[.c (.bool false)],some 2,none⟩]) .ret) .skip)) (.seq (.seq (.region [⟨.mov,[.c (.int .i64 0)],some 3,none⟩]) (.block 0 (.loop (.seq (.seq (.region [⟨.mov,[.loc 3],none,none⟩,⟨.mov,[.loc 0],none,none⟩,
 ⟨.len,[.tmp 1],none,none⟩,⟨.bin .lss,[.tmp 0,.tmp 2],some 8,none⟩]) (.cond (.loc 8) .skip (.exit 0))) (.seq (.block 1 (.seq (.region [⟨.mov,[.c (.int .i64 0)],some 4,none⟩,⟨.mov,[.c (.int .i64 0)],some 5,none⟩]) (.seq (.seq (.region [
 ⟨.mov,[.c (.int .i64 0)],some 6,none⟩]) (.block 2 (.loop (.seq (.seq (.region [⟨.mov,[.loc 6],none,none⟩,⟨.mov,[.loc 1],none,none⟩,⟨.len,[.tmp 1],none,none⟩,⟨.bin .lss,[.tmp 0,.tmp 2],some 9,none⟩]) (.cond (.loc 9) .skip (.exit 2))) (.seq (.block 3 (.seq (.seq (.region [⟨.mov,[.loc 0],none,none⟩,
 ⟨.mov,[.loc 6],none,none⟩,⟨.iaddr 1 none,[.tmp 0,.tmp 1],none,none⟩,⟨.load none,[.tmp 2],none,none⟩,⟨.mov,[.loc 0],none,none⟩,⟨.mov,[.loc 3],none,none⟩,⟨.iaddr 1 none,[.tmp 4,.tmp 5],none,none⟩,⟨.load none,[.tmp 6],none,none⟩,⟨.bin .eql,[.tmp 3,.tmp 7],some 10,none⟩]) (.cond (.loc 10) (.region [
 ⟨.mov,[.loc 4],none,none⟩,⟨.bin .add,[.tmp 0,.c (.int .i64 1)],none,none⟩,⟨.mov,[.tmp 1],some 4,none⟩]) .skip)) (.seq (.region [⟨.mov,[.loc 1],none,none⟩,⟨.mov,[.loc 6],none,none⟩,⟨.iaddr 1 none,[.tmp 0,.tmp 1],none,none⟩,⟨.load none,[.tmp 2],none,none⟩,⟨.mov,[.loc 0],none,none⟩,
 ⟨.mov,[.loc 3],none,none⟩,⟨.iaddr 1 none,[.tmp 4,.tmp 5],none,none⟩,⟨.load none,[.tmp 6],none,none⟩,⟨.bin .eql,[.tmp 3,.tmp 7],some 11,none⟩]) (.cond (.loc 11) (.region [⟨.mov,[.loc 5],none,none⟩,⟨.bin .add,[.tmp 0,.c (.int .i64 1)],none,none⟩,⟨.mov,[.tmp 1],some 5,none⟩]) .skip)))) (.region [
 ⟨.mov,[.loc 6],none,none⟩,⟨.bin .add,[.tmp 0,.c (.int .i64 1)],none,none⟩,⟨.mov,[.tmp 1],some 6,none⟩])))))) (.seq (.region [⟨.mov,[.loc 4],none,none⟩,⟨.mov,[.loc 5],none,none⟩,⟨.bin .neq,[.tmp 0,.tmp 1],some 12,none⟩]) (.cond (.loc 12) (.seq (.region [
 ⟨.mov,[.c (.bool false)],some 2,none⟩]) .ret) .skip))))) (.region [⟨.mov,[.loc 3],none,none⟩,⟨.bin .add,[.tmp 0,.c (.int .i64 1)],none,none⟩,⟨.mov,[.tmp 1],some 3,none⟩])))))) (.seq (.region [⟨.mov,[.c (.bool true)],some 2,none⟩]) .ret))))}
def steal_Steal_look:AFn:={ nloc:=4,npar:=2,res:=[],body:=(.seq (.region [⟨.mov,[.loc 0],none,none⟩,⟨.mov,[.loc 1],none,none⟩,⟨.mov,[.loc 0],none,none⟩,⟨.nilc,[.tmp 2],none,none⟩,⟨.faddr 0,[.tmp 3],none,none⟩,⟨.load (some 6),[.tmp 4],none,none⟩,⟨.mov,[.loc 0],none,none⟩,⟨.nilc,[.tmp 6],none,none⟩,
 ⟨.faddr 8,[.tmp 7],none,none⟩,⟨.load none,[.tmp 8],none,none⟩,⟨.call 159,[.tmp 5,.tmp 9],none,none⟩,⟨.call 24,[.tmp 1,.tmp 10],none,none⟩,⟨.nilc,[.tmp 0],none,none⟩,⟨.faddr 10,[.tmp 12],none,none⟩,⟨.store 1,[.tmp 13,.tmp 11],none,none⟩]) (.seq (.region [⟨.mov,[.loc 0],none,none⟩,
 ⟨.mov,[.loc 0],none,none⟩,⟨.nilc,[.tmp 1],none,none⟩,⟨.faddr 0,[.tmp 2],none,none⟩,⟨.faddr 1,[.tmp 3],none,none⟩,⟨.load none,[.tmp 4],none,none⟩,⟨.make 1 8 [.int .i64 0],[.c (.int .i64 0),.tmp 5],none,none⟩,⟨.nilc,[.tmp 0],none,none⟩,⟨.faddr 11,[.tmp 7],none,none⟩,
 ⟨.store 1,[.tmp 8,.tmp 6],none,none⟩]) (.seq (.region [⟨.mov,[.loc 0],none,none⟩,⟨.nilc,[.tmp 0],none,none⟩,⟨.faddr 9,[.tmp 1],none,none⟩,⟨.store 1,[.tmp 2,.c (.int .i64 2)],none,none⟩]) (.seq (.region [⟨.mov,[.loc 0],none,none⟩,⟨.nilc,[.tmp 0],none,none⟩,⟨.faddr 10,[.tmp 1],none,none⟩,
 ⟨.load none,[.tmp 2],none,none⟩,⟨.call 178,[.tmp 3],none,none⟩,⟨.mov,[.tmp 4],some 2,none⟩]) (.seq (.region [⟨.mov,[.loc 2],none,none⟩,⟨.bin .eql,[.tmp 0,.c (.int .u32 0)],none,none⟩,⟨.mov,[.tmp 1],none,none⟩,⟨.mov,[.loc 2],none,some (2,false)⟩,⟨.mov,[.loc 0],none,some (2,false)⟩,
 ⟨.nilc,[.tmp 4],none,some (2,false)⟩,⟨.faddr 0,[.tmp 5],none,some (2,false)⟩,⟨.faddr 1,[.tmp 6],none,some (2,false)⟩,⟨.load none,[.tmp 7],none,some (2,false)⟩,⟨.conv .u32,[.tmp 8],none,some (2,false)⟩,⟨.bin .gtr,[.tmp 3,.tmp 9],none,some (2,false)⟩,
 ⟨.pick,[.tmp 2,.c (.bool true),.tmp 10],some 3,none⟩]) (.cond (.loc 3) (.region [⟨.mov,[.loc 0],none,none⟩,⟨.nilc,[.tmp 0],none,none⟩,⟨.faddr 9,[.tmp 1],none,none⟩,⟨.store 1,[.tmp 2,.c (.int .i64 0)],none,none⟩]) .skip))))))}
def steal_Steal_copy:AFn:={ nloc:=3,npar:=2,res:=[],body:=(.seq (.draw [0,1,2,3,4,5,6,7,8,9,10,11,12,13,14,15,16,17,18,19,20,21,22,23,24,25,26,27,28,29,30,31,32,33] 0 [⟨.mov,[.loc 0],none,none⟩,⟨.mov,[.loc 0],none,none⟩,⟨.nilc,[.tmp 1],none,none⟩,⟨.faddr 11,[.tmp 2],none,none⟩,⟨.load none,[.tmp 3],none,none⟩,
 ⟨.mov,[.loc 1],none,none⟩,⟨.mov,[.loc 0],none,none⟩,⟨.nilc,[.tmp 6],none,none⟩,⟨.faddr 0,[.tmp 7],none,none⟩,⟨.load (some 6),[.tmp 8],none,none⟩,⟨.mov,[.loc 0],none,none⟩,⟨.nilc,[.tmp 10],none,none⟩,⟨.faddr 8,[.tmp 11],none,none⟩,⟨.load none,[.tmp 12],none,none⟩,⟨.mov,[.loc 0],none,none⟩,
 ⟨.nilc,[.tmp 14],none,none⟩,⟨.faddr 10,[.tmp 15],none,none⟩,⟨.load none,[.tmp 16],none,none⟩,⟨.call 179,[.tmp 17],none,none⟩,⟨.mov,[.loc 0],none,none⟩,⟨.nilc,[.tmp 19],none,none⟩,⟨.faddr 11,[.tmp 20],none,none⟩,⟨.load none,[.tmp 21],none,none⟩,⟨.len,[.tmp 22],none,none⟩,
 ⟨.conv .u32,[.tmp 23],none,none⟩,⟨.bin .add,[.tmp 18,.tmp 24],none,none⟩,⟨.call 160,[.tmp 9,.tmp 13,.tmp 25],none,none⟩,⟨.call 24,[.tmp 5,.tmp 26],none,none⟩,⟨.conv .i64,[.tmp 27],none,none⟩,⟨.lit 1 1 [.int .i64 0] [(0,1)],[.tmp 28],none,none⟩,⟨.append 1 8,[.tmp 4,.tmp 29],none,none⟩,
 ⟨.nilc,[.tmp 0],none,none⟩,⟨.faddr 11,[.tmp 31],none,none⟩,⟨.store 1,[.tmp 32,.tmp 30],none,none⟩] [(4,[19,27,28,30]),(9,[19]),(13,[19]),(22,[0])]) (.seq (.draw [0,1,2,3,4,5,6,7] 0 [⟨.mov,[.loc 0],none,none⟩,⟨.nilc,[.tmp 0],none,none⟩,⟨.faddr 11,[.tmp 1],none,none⟩,⟨.load none,[.tmp 2],none,none⟩,
 ⟨.len,[.tmp 3],none,none⟩,⟨.mov,[.loc 0],none,none⟩,⟨.call 288,[.tmp 5],none,none⟩,⟨.bin .eql,[.tmp 4,.tmp 6],some 2,none⟩] [(3,[7])]) (.cond (.loc 2) (.region [⟨.mov,[.loc 0],none,none⟩,⟨.nilc,[.tmp 0],none,none⟩,⟨.faddr 9,[.tmp 1],none,none⟩,
 ⟨.store 1,[.tmp 2,.c (.int .i64 3)],none,none⟩]) .skip)))}
def steal_Steal_gain:AFn:={ nloc:=4,npar:=2,res:=[],body:=(.scopeg 0 (.seq .skip (.region [⟨.mov,[.loc 0],none,none⟩,⟨.mov,[.loc 0],none,none⟩,⟨.nilc,[.tmp 0],none,none⟩,⟨.faddr 9,[.tmp 2],none,none⟩,⟨.store 1,[.tmp 3,.c (.int .i64 1)],none,none⟩,⟨.nilc,[.tmp 1],none,none⟩,⟨.faddr 11,[.tmp 5],none,none⟩,
 ⟨.store 1,[.tmp 6,.c (.nils)],none,none⟩])) (.seq (.seq (.draw [0,1,2,3,4,5,6,7,8,9,10,11,12,13,14,15,16,17,18,19,20,21,22,23] 0 [⟨.mov,[.loc 1],none,none⟩,⟨.mov,[.loc 0],none,none⟩,⟨.nilc,[.tmp 1],none,none⟩,⟨.faddr 0,[.tmp 2],none,none⟩,⟨.load (some 6),[.tmp 3],none,none⟩,
 ⟨.mov,[.loc 0],none,none⟩,⟨.nilc,[.tmp 5],none,none⟩,⟨.faddr 8,[.tmp 6],none,none⟩,⟨.load none,[.tmp 7],none,none⟩,⟨.call 159,[.tmp 4,.tmp 8],none,none⟩,⟨.mov,[.loc 0],none,none⟩,⟨.nilc,[.tmp 10],none,none⟩,⟨.faddr 10,[.tmp 11],none,none⟩,⟨.load none,[.tmp 12],none,none⟩,⟨.mov,[.loc 0],none,none⟩,
 ⟨.nilc,[.tmp 14],none,none⟩,⟨.faddr 10,[.tmp 15],none,none⟩,⟨.load none,[.tmp 16],none,none⟩,⟨.mov,[.loc 0],none,none⟩,⟨.call 288,[.tmp 18],none,none⟩,⟨.conv .u32,[.tmp 19],none,none⟩,⟨.call 180,[.tmp 17,.tmp 20],none,none⟩,⟨.call 23,[.tmp 0,.tmp 9,.tmp 13,.tmp 21],none,none⟩,
 ⟨.not,[.tmp 22],some 2,none⟩] [(13,[0,20,22]),(17,[0,20])]) (.cond (.loc 2) (.goto 0) .skip)) (.seq (.region [⟨.mov,[.loc 0],none,none⟩,⟨.mov,[.loc 0],none,none⟩,⟨.nilc,[.tmp 1],none,none⟩,⟨.faddr 11,[.tmp 2],none,none⟩,⟨.load none,[.tmp 3],none,none⟩,⟨.len,[.tmp 4],none,none⟩,
 ⟨.nilc,[.tmp 0],none,none⟩,⟨.faddr 12,[.tmp 6],none,none⟩,⟨.store 1,[.tmp 7,.tmp 5],none,none⟩]) (.seq (.region [⟨.mov,[.loc 0],none,none⟩,⟨.mov,[.loc 0],none,none⟩,⟨.nilc,[.tmp 1],none,none⟩,⟨.faddr 11,[.tmp 2],none,none⟩,⟨.load none,[.tmp 3],none,none⟩,⟨.mov,[.loc 0],none,none⟩,
 ⟨.nilc,[.tmp 5],none,none⟩,⟨.faddr 12,[.tmp 6],none,none⟩,⟨.load none,[.tmp 7],none,none⟩,⟨.mov,[.loc 0],none,none⟩,⟨.nilc,[.tmp 9],none,none⟩,⟨.faddr 12,[.tmp 10],none,none⟩,⟨.load none,[.tmp 11],none,none⟩,⟨.slice 1 false true true,[.tmp 4,.tmp 8,.tmp 12],none,none⟩,⟨.nilc,[.tmp 0],none,none⟩,
 ⟨.faddr 11,[.tmp 14],none,none⟩,⟨.store 1,[.tmp 15,.tmp 13],none,none⟩]) (.seq (.region [⟨.mov,[.loc 0],none,none⟩,⟨.mov,[.loc 0],none,none⟩,⟨.nilc,[.tmp 1],none,none⟩,⟨.faddr 0,[.tmp 2],none,none⟩,⟨.load (some 6),[.tmp 3],none,none⟩,⟨.mov,[.loc 0],none,none⟩,⟨.nilc,[.tmp 5],none,none⟩,
 ⟨.faddr 7,[.tmp 6],none,none⟩,⟨.load none,[.tmp 7],none,none⟩,⟨.mov,[.loc 0],none,none⟩,⟨.nilc,[.tmp 9],none,none⟩,⟨.faddr 11,[.tmp 10],none,none⟩,⟨.load none,[.tmp 11],none,none⟩,⟨.slice 1 true false false,[.tmp 12,.c (.int .i64 1)],none,none⟩,⟨.call 199,[.tmp 4,.tmp 8,.tmp 13],none,none⟩,
 ⟨.nilc,[.tmp 0],none,none⟩,⟨.faddr 6,[.tmp 15],none,none⟩,⟨.faddr 0,[.tmp 16],none,none⟩,⟨.store 1,[.tmp 17,.tmp 14],none,none⟩]) (.seq (.region [⟨.mov,[.loc 0],none,none⟩,⟨.nilc,[.tmp 0],none,none⟩,⟨.faddr 9,[.tmp 1],none,none⟩,⟨.store 1,[.tmp 2,.c (.int .i64 4)],none,none⟩]) (.seq (.seq (.region [
 ⟨.mov,[.loc 0],none,none⟩,⟨.nilc,[.tmp 0],none,none⟩,⟨.faddr 12,[.tmp 1],none,none⟩,⟨.load none,[.tmp 2],none,none⟩,⟨.bin .eql,[.tmp 3,.c (.int .i64 1)],some 3,none⟩]) (.cond (.loc 3) (.region [⟨.mov,[.loc 0],none,none⟩,⟨.nilc,[.tmp 0],none,none⟩,⟨.faddr 9,[.tmp 1],none,none⟩,
 ⟨.store 1,[.tmp 2,.c (.int .i64 0)],none,none⟩]) .skip)) (.seq .ret (.seq .skip (.region [⟨.mov,[.loc 0],none,none⟩,⟨.mov,[.loc 0],none,none⟩,⟨.nilc,[.tmp 0],none,none⟩,⟨.faddr 9,[.tmp 2],none,none⟩,⟨.store 1,[.tmp 3,.c (.int .i64 1)],none,none⟩,⟨.nilc,[.tmp 1],none,none⟩,
 ⟨.faddr 11,[.tmp 5],none,none⟩,⟨.store 1,[.tmp 6,.c (.nils)],none,none⟩]))))))))))}
def put_Lay_Step:AFn:=F09.put_Lay_Step
def steal_rest_Rest:AFn:={ nloc:=3,npar:=1,res:=[.loc 2],body:=(.seq (.region [⟨.box,[.loc 0],some 1,none⟩,⟨.mov,[.c (.nils)],some 2,none⟩]) (.seq (.region [⟨.faddr 0,[.loc 1],none,none⟩,⟨.load none,[.tmp 0],none,none⟩,⟨.call 197,[.tmp 1],none,none⟩,⟨.mov,[.tmp 2],some 2,none⟩]) .ret))}
def slices_Concat_int:AFn:={ nloc:=15,npar:=1,res:=[.loc 1],body:=(.seq (.region [⟨.mov,[.c (.nils)],some 1,none⟩]) (.seq (.region [⟨.mov,[.c (.int .i64 0)],some 2,none⟩]) (.seq (.seq (.region [⟨.mov,[.loc 0],some 6,none⟩,⟨.len,[.tmp 0],some 7,none⟩,
 ⟨.mov,[.c (.int .i64 0)],some 8,none⟩]) (.block 0 (.loop (.seq (.region [⟨.bin .lss,[.loc 8,.loc 7],some 9,none⟩]) (.seq (.cond (.loc 9) .skip (.exit 0)) (.seq (.block 1 (.seq (.region [⟨.iaddr 1 none,[.loc 6,.loc 8],none,none⟩,⟨.load none,[.tmp 0],none,none⟩,
 ⟨.mov,[.tmp 1],some 3,none⟩]) (.seq (.region [⟨.mov,[.loc 2],none,none⟩,⟨.mov,[.loc 3],none,none⟩,⟨.len,[.tmp 1],none,none⟩,⟨.bin .add,[.tmp 0,.tmp 2],none,none⟩,⟨.mov,[.tmp 3],some 2,none⟩]) (.seq (.region [⟨.mov,[.loc 2],none,none⟩,
 ⟨.bin .lss,[.tmp 0,.c (.int .i64 0)],some 10,none⟩]) (.cond (.loc 10) (.region [⟨.trap,[],none,none⟩,⟨.trap,[],none,none⟩]) .skip))))) (.region [⟨.bin .add,[.loc 8,.c (.int .i64 1)],none,none⟩,⟨.mov,[.tmp 0],some 8,none⟩]))))))) (.seq (.region [⟨.mov,[.loc 2],none,none⟩,
 ⟨.call 290,[.c (.nils),.tmp 0],none,none⟩,⟨.mov,[.tmp 1],some 4,none⟩]) (.seq (.seq (.region [⟨.mov,[.loc 0],some 11,none⟩,⟨.len,[.tmp 0],some 12,none⟩,⟨.mov,[.c (.int .i64 0)],some 13,none⟩]) (.block 2 (.loop (.seq (.region [
 ⟨.bin .lss,[.loc 13,.loc 12],some 14,none⟩]) (.seq (.cond (.loc 14) .skip (.exit 2)) (.seq (.block 3 (.seq (.region [⟨.iaddr 1 none,[.loc 11,.loc 13],none,none⟩,⟨.load none,[.tmp 0],none,none⟩,⟨.mov,[.tmp 1],some 5,none⟩]) (.region [⟨.mov,[.loc 4],none,none⟩,⟨.mov,[.loc 5],none,none⟩,
 ⟨.append 1 8,[.tmp 0,.tmp 1],none,none⟩,⟨.mov,[.tmp 2],some 4,none⟩]))) (.region [⟨.bin .add,[.loc 13,.c (.int .i64 1)],none,none⟩,⟨.mov,[.tmp 0],some 13,none⟩]))))))) (.seq (.region [⟨.mov,[.loc 4],none,none⟩,⟨.mov,[.tmp 0],some 1,none⟩]) .ret))))))}
def law11_rings:AFn:={ nloc:=6,npar:=0,res:=[.cell 0 (some 6),.loc 1],body:=(.seq (.region [⟨.alloc [.int .i64 0,.int .i64 0,.int .i64 0,.int .i64 0,.int .i64 0,.int .i64 0],[],some 0,none⟩,⟨.mov,[.c (.nilp)],some 1,none⟩]) (.seq (.region [
 ⟨.build [.int .i64 0,.int .i64 0,.int .i64 0,.int .i64 0,.int .i64 0,.int .i64 0] [(0,1),(1,1),(2,1),(3,1),(4,1)],[.c (.int .i64 2),.c (.int .i64 4),.c (.int .i64 9),.c (.int .i64 3),.c (.int .i64 2)],none,none⟩,
 ⟨.alloc [.int .i64 0,.int .i64 0,.int .i64 0,.int .i64 0,.int .i64 0,.int .i64 0],[],some 2,none⟩,⟨.store 6,[.tmp 1,.tmp 0],none,none⟩]) (.seq (.region [⟨.load (some 6),[.loc 2],none,none⟩,⟨.call 156,[.tmp 0],none,none⟩,⟨.call 21,[.tmp 1],none,none⟩,
 ⟨.mov,[.tmp 2],some 3,none⟩]) (.seq (.seq (.region [⟨.mov,[.c (.int .i64 0)],some 4,none⟩]) (.block 0 (.loop (.seq (.seq (.region [⟨.mov,[.loc 4],none,none⟩,⟨.bin .lss,[.tmp 0,.c (.int .i64 3)],some 5,none⟩]) (.cond (.loc 5) .skip (.exit 0))) (.seq (.block 1 (.region [⟨.mov,[.loc 3],none,none⟩,
 ⟨.load (some 6),[.loc 2],none,none⟩,⟨.mov,[.loc 4],none,none⟩,⟨.conv .u32,[.tmp 2],none,none⟩,⟨.call 160,[.tmp 1,.c (.int .i64 1),.tmp 3],none,none⟩,⟨.mov,[.loc 4],none,none⟩,⟨.bin .add,[.c (.int .i64 5),.tmp 5],none,none⟩,⟨.conv .u64,[.tmp 6],none,none⟩,
 ⟨.call 22,[.tmp 0,.tmp 4,.tmp 7],none,none⟩])) (.region [⟨.mov,[.loc 4],none,none⟩,⟨.bin .add,[.tmp 0,.c (.int .i64 1)],none,none⟩,⟨.mov,[.tmp 1],some 4,none⟩])))))) (.seq (.region [⟨.mov,[.loc 3],none,none⟩,⟨.load (some 6),[.loc 2],none,none⟩,⟨.call 159,[.tmp 1,.c (.int .i64 1)],none,none⟩,
 ⟨.call 22,[.tmp 0,.tmp 2,.c (.int .u64 3)],none,none⟩]) (.seq (.region [⟨.load (some 6),[.loc 2],none,none⟩,⟨.mov,[.loc 3],none,none⟩,⟨.store 6,[.loc 0,.tmp 0],none,none⟩,⟨.mov,[.tmp 1],some 1,none⟩]) .ret))))))}
def ref06_New:AFn:=F09.ref06_New
def conf_Config_Cells:AFn:=F09.conf_Config_Cells
def conf_Config_Right:AFn:=F09.conf_Config_Right
def docs_byteAt:AFn:=F09.docs_byteAt
def conf_Config_Slot:AFn:=F09.conf_Config_Slot
def conf_Config_Next:AFn:=F09.conf_Config_Next
def conf_Config_Stat:AFn:=F09.conf_Config_Stat
def conf_Config_Tick:AFn:=F09.conf_Config_Tick
def conf_Config_Sys:AFn:=F09.conf_Config_Sys
def conf_Config_Flag:AFn:=F09.conf_Config_Flag
def ref09_There:AFn:=F09.ref09_There
def ref11_Hands:AFn:={ nloc:=5,npar:=1,res:=[.loc 2],body:=(.seq (.region [⟨.box,[.loc 0],some 1,none⟩,⟨.mov,[.c (.nils)],some 2,none⟩]) (.seq (.seq (.region [⟨.faddr 11,[.loc 1],none,none⟩,⟨.load none,[.tmp 0],none,none⟩,⟨.bin .eql,[.tmp 1,.c (.int .i64 0)],some 4,none⟩]) (.cond (.loc 4) (.seq (.region [
 ⟨.mov,[.c (.nils)],some 2,none⟩]) .ret) .skip)) (.seq (.region [⟨.mov,[.c (.nils)],some 3,none⟩]) (.seq (.region [⟨.mov,[.loc 3],none,none⟩,⟨.faddr 10,[.loc 1],none,none⟩,⟨.load none,[.tmp 1],none,none⟩,⟨.iaddr 1 none,[.tmp 2,.c (.int .i64 0)],none,none⟩,⟨.load none,[.tmp 3],none,none⟩,
 ⟨.lit 1 1 [.int .i64 0] [(0,1)],[.tmp 4],none,none⟩,⟨.append 1 8,[.tmp 0,.tmp 5],none,none⟩,⟨.mov,[.tmp 6],some 3,none⟩]) (.seq (.region [⟨.mov,[.loc 3],none,none⟩,⟨.faddr 12,[.loc 1],none,none⟩,⟨.faddr 7,[.tmp 1],none,none⟩,⟨.load none,[.tmp 2],none,none⟩,⟨.append 1 8,[.tmp 0,.tmp 3],none,none⟩,
 ⟨.mov,[.tmp 4],some 2,none⟩]) .ret)))))}
def cell_Mem_Len:AFn:=F09.cell_Mem_Len
def docs_SameCells:AFn:=F09.docs_SameCells
def cell_Mem_All:AFn:=F09.cell_Mem_All
def ref09_Size:AFn:=F09.ref09_Size
def ref09_Head:AFn:=F09.ref09_Head
def ref09_Tail:AFn:=F09.ref09_Tail
def ref06_Load:AFn:=F09.ref06_Load
def ref09_Word:AFn:=F09.ref09_Word
def ref09_Slot:AFn:=F09.ref09_Slot
def ref06_CAS:AFn:=F09.ref06_CAS
def ref09_Pack:AFn:=F09.ref09_Pack
def ref09_NewLay:AFn:=F09.ref09_NewLay
def ref09_StepLay:AFn:=F09.ref09_StepLay
def cell_Mem_access:AFn:=F09.cell_Mem_access
def cell_Mem_Store_1:AFn:=F09.cell_Mem_Store_1
def ref06_there:AFn:=F09.ref06_there
def ref06_with:AFn:=F09.ref06_with
def conf_own_at:AFn:=F09.conf_own_at
def put_from:AFn:=F09.put_from
def put_Put_Done:AFn:=F09.put_Put_Done
def put_ways:AFn:=F09.put_ways
def slices_Clone_int:AFn:=F09.slices_Clone_int
def cell_Mem_Load:AFn:=F09.cell_Mem_Load
def word_Len:AFn:=F09.word_Len
def word_Head:AFn:=F09.word_Head
def steal_Steal_half:AFn:={ nloc:=2,npar:=1,res:=[.loc 1],body:=(.seq (.region [⟨.mov,[.c (.int .i64 0)],some 1,none⟩]) (.seq (.region [⟨.mov,[.loc 0],none,none⟩,⟨.nilc,[.tmp 0],none,none⟩,⟨.faddr 10,[.tmp 1],none,none⟩,⟨.load none,[.tmp 2],none,none⟩,⟨.call 178,[.tmp 3],none,none⟩,⟨.call 289,[.tmp 4],none,none⟩,
 ⟨.conv .i64,[.tmp 5],none,none⟩,⟨.mov,[.tmp 6],some 1,none⟩]) .ret))}
def cell_Mem_CAS:AFn:=F09.cell_Mem_CAS
def word_Gain:AFn:={ nloc:=3,npar:=2,res:=[.loc 2],body:=(.seq (.region [⟨.mov,[.c (.int .u64 0)],some 2,none⟩]) (.seq (.region [⟨.mov,[.loc 0],none,none⟩,⟨.call 179,[.tmp 0],none,none⟩,⟨.mov,[.loc 1],none,none⟩,⟨.bin .add,[.tmp 1,.tmp 2],none,none⟩,⟨.mov,[.loc 0],none,none⟩,⟨.call 182,[.tmp 4],none,none⟩,
 ⟨.call 183,[.tmp 3,.tmp 5],none,none⟩,⟨.mov,[.tmp 6],some 2,none⟩]) .ret))}
def put_NewLay:AFn:=F09.put_NewLay
def put_Lay_Done:AFn:=F09.put_Lay_Done
def put_Lay_look:AFn:=F09.put_Lay_look
def put_ring_slot:AFn:=F09.put_ring_slot
def put_ring_change:AFn:=F09.put_ring_change
def word_Grow:AFn:=F09.word_Grow
def put_Lay_Hands:AFn:=F09.put_Lay_Hands
def slices_Grow_int:AFn:={ nloc:=5,npar:=2,res:=[.loc 2],body:=(.seq (.region [⟨.mov,[.c (.nils)],some 2,none⟩]) (.seq (.seq (.region [⟨.mov,[.loc 1],none,none⟩,⟨.bin .lss,[.tmp 0,.c (.int .i64 0)],some 3,none⟩]) (.cond (.loc 3) (.region [⟨.trap,[],none,none⟩,⟨.trap,[],none,none⟩]) .skip)) (.seq (.seq (.region [
 ⟨.mov,[.loc 1],none,none⟩,⟨.mov,[.loc 0],none,none⟩,⟨.cap,[.tmp 1],none,none⟩,⟨.mov,[.loc 0],none,none⟩,⟨.len,[.tmp 3],none,none⟩,⟨.bin .sub,[.tmp 2,.tmp 4],none,none⟩,⟨.bin .sub,[.tmp 0,.tmp 5],none,none⟩,⟨.mov,[.tmp 6],some 1,none⟩]) (.seq (.region [⟨.mov,[.loc 1],none,none⟩,
 ⟨.bin .gtr,[.tmp 0,.c (.int .i64 0)],some 4,none⟩]) (.cond (.loc 4) (.region [⟨.mov,[.loc 0],none,none⟩,⟨.mov,[.loc 0],none,none⟩,⟨.cap,[.tmp 1],none,none⟩,⟨.slice 1 false true false,[.tmp 0,.tmp 2],none,none⟩,⟨.mov,[.loc 1],none,none⟩,⟨.appendz 1 8 [.int .i64 0],[.tmp 3,.tmp 4],none,none⟩,
 ⟨.mov,[.loc 0],none,none⟩,⟨.len,[.tmp 6],none,none⟩,⟨.slice 1 false true false,[.tmp 5,.tmp 7],none,none⟩,⟨.mov,[.tmp 8],some 0,none⟩]) .skip))) (.seq (.region [⟨.mov,[.loc 0],none,none⟩,⟨.mov,[.tmp 0],some 2,none⟩]) .ret))))}
def conf_within:AFn:=F09.conf_within
def ref05_Right:AFn:=F09.ref05_Right
def slices_Clone_uint64:AFn:=F09.slices_Clone_uint64
def cell_Mem_there:AFn:=F09.cell_Mem_there
def cell_counts_note:AFn:=F09.cell_counts_note
def put_Put_look:AFn:=F09.put_Put_look
def put_Put_lay:AFn:=F09.put_Put_lay
def put_Put_swing:AFn:=F09.put_Put_swing
def put_Put_take:AFn:=F09.put_Put_take
def put_Put_cut:AFn:=F09.put_Put_cut
def cell_Mem_Load_1:AFn:=F09.cell_Mem_Load_1
def word_Tail:AFn:=F09.word_Tail
def word_Older:AFn:={ nloc:=2,npar:=1,res:=[.loc 1],body:=(.seq (.region [⟨.mov,[.c (.int .u32 0)],some 1,none⟩]) (.seq (.region [⟨.mov,[.loc 0],none,none⟩,⟨.mov,[.loc 0],none,none⟩,⟨.bin .quo,[.tmp 1,.c (.int .u32 2)],none,none⟩,⟨.bin .sub,[.tmp 0,.tmp 2],none,none⟩,⟨.mov,[.tmp 3],some 1,none⟩]) .ret))}
def cell_Mem_CAS_1:AFn:=F09.cell_Mem_CAS_1
def word_Pack:AFn:=F09.word_Pack
def slices_DeleteFunc_int:AFn:=F09.slices_DeleteFunc_int
def put_NewLay_1:AFn:=F09.put_NewLay_1
def put_ring_load:AFn:=F09.put_ring_load
def put_Put_half:AFn:=F09.put_Put_half
def word_Drop:AFn:=F09.word_Drop
def slices_IndexFunc_int:AFn:=F09.slices_IndexFunc_int
end Go.Am.F11
end
section
namespace Go.Am.F12
set_option maxRecDepth 10000
def law11_StealKnown:AFn:={ nloc:=11,npar:=0,res:=[.loc 0],body:=(.seq (.region [⟨.mov,[.c (.bool false)],some 0,none⟩]) (.seq (.region [⟨.mov,[.c (.int .i64 1)],some 1,none⟩]) (.seq (.seq (.region [⟨.mov,[.c (.int .i64 0)],some 2,none⟩]) (.block 0 (.loop (.seq (.seq (.region [⟨.mov,[.loc 2],none,none⟩,
 ⟨.bin .lss,[.tmp 0,.c (.int .i64 60)],some 8,none⟩]) (.cond (.loc 8) .skip (.exit 0))) (.seq (.block 1 (.seq (.region [⟨.mov,[.c (.nils)],some 3,none⟩]) (.seq (.region [⟨.mov,[.c (.nils)],some 4,none⟩]) (.seq (.region [⟨.mov,[.c (.nils)],some 5,none⟩]) (.seq (.region [⟨.mov,[.loc 2],none,none⟩,
 ⟨.bin .add,[.c (.int .i64 1),.tmp 0],none,none⟩,⟨.mov,[.loc 2],none,none⟩,⟨.bin .quo,[.tmp 2,.c (.int .i64 3)],none,none⟩,⟨.mov,[.loc 2],none,none⟩,⟨.bin .quo,[.tmp 4,.c (.int .i64 5)],none,none⟩,
 ⟨.build [.int .i64 0,.int .i64 0,.int .i64 0,.int .i64 0,.int .i64 0,.int .i64 0] [(0,1),(1,1),(2,1),(3,1),(4,1)],[.tmp 1,.tmp 3,.c (.int .i64 5),.tmp 5,.c (.int .i64 3)],none,none⟩,⟨.call 133,[.tmp 6],none,none⟩,
 ⟨.alloc [.int .i64 0,.int .i64 0,.int .i64 0,.int .i64 0,.int .i64 0,.int .i64 0],[],some 6,none⟩,⟨.store 6,[.tmp 8,.tmp 7],none,none⟩]) (.seq (.seq (.region [⟨.mov,[.c (.int .i64 0)],some 7,none⟩]) (.block 2 (.loop (.seq (.seq (.region [⟨.mov,[.loc 7],none,none⟩,
 ⟨.bin .lss,[.tmp 0,.c (.int .i64 60)],some 9,none⟩]) (.cond (.loc 9) .skip (.exit 2))) (.seq (.block 3 (.seq (.region [⟨.mov,[.loc 3],none,none⟩,⟨.mov,[.loc 1],none,none⟩,⟨.conv .u8,[.tmp 1],none,none⟩,⟨.lit 1 1 [.int .u8 0] [(0,1)],[.tmp 2],none,none⟩,⟨.append 1 1,[.tmp 0,.tmp 3],none,none⟩,
 ⟨.mov,[.tmp 4],some 3,none⟩]) (.seq (.draw [0,1,2,3,4,5,6,7,8,9,10,11,12,13,14,15,16,17,18,19,20,21,22,23,24,25,26,27,28,29] 0 [⟨.mov,[.loc 4],none,none⟩,⟨.mov,[.loc 1],none,none⟩,⟨.bin .rem,[.tmp 1,.c (.int .i64 6)],none,none⟩,⟨.bin .eql,[.tmp 2,.c (.int .i64 0)],none,none⟩,
 ⟨.load (some 6),[.loc 6],none,none⟩,⟨.mov,[.loc 1],none,none⟩,⟨.faddr 0,[.loc 6],none,none⟩,⟨.load none,[.tmp 6],none,none⟩,⟨.bin .rem,[.tmp 5,.tmp 7],none,none⟩,⟨.call 159,[.tmp 4,.tmp 8],none,none⟩,⟨.mov,[.loc 1],none,none⟩,⟨.bin .rem,[.tmp 10,.c (.int .i64 7)],none,none⟩,
 ⟨.conv .u32,[.tmp 11],none,none⟩,⟨.conv .u64,[.tmp 12],none,none⟩,⟨.shf .shl,[.tmp 13,.c (.int .u64 32)],none,none⟩,⟨.mov,[.loc 1],none,none⟩,⟨.bin .rem,[.tmp 15,.c (.int .i64 7)],none,none⟩,⟨.mov,[.loc 1],none,none⟩,⟨.bin .quo,[.tmp 17,.c (.int .i64 7)],none,none⟩,⟨.faddr 1,[.loc 6],none,none⟩,
 ⟨.load none,[.tmp 19],none,none⟩,⟨.bin .add,[.tmp 20,.c (.int .i64 2)],none,none⟩,⟨.bin .rem,[.tmp 18,.tmp 21],none,none⟩,⟨.bin .add,[.tmp 16,.tmp 22],none,none⟩,⟨.conv .u64,[.tmp 23],none,none⟩,⟨.bin .add,[.tmp 14,.tmp 24],none,none⟩,
 ⟨.build [.bool false,.int .i64 0,.int .u64 0] [(0,1),(1,1),(2,1)],[.tmp 3,.tmp 9,.tmp 25],none,none⟩,⟨.lit 1 3 [.bool false,.int .i64 0,.int .u64 0] [(0,3)],[.tmp 26],none,none⟩,⟨.append 3 24,[.tmp 0,.tmp 27],none,none⟩,⟨.mov,[.tmp 28],some 4,none⟩] [(20,[0])]) (.seq (.region [
 ⟨.mov,[.loc 5],none,none⟩,⟨.lit 6 1 [.int .i64 0] [(0,1),(1,1),(2,1),(3,1),(4,1),(5,1)],[.c (.int .i64 0),.c (.int .i64 0),.c (.int .i64 1),.c (.int .i64 1),.c (.int .i64 1),.c (.int .i64 2)],none,none⟩,⟨.mov,[.loc 1],none,none⟩,⟨.bin .rem,[.tmp 2,.c (.int .i64 6)],none,none⟩,
 ⟨.iaddr 1 none,[.tmp 1,.tmp 3],none,none⟩,⟨.load none,[.tmp 4],none,none⟩,⟨.mov,[.loc 1],none,none⟩,⟨.bin .quo,[.tmp 6,.c (.int .i64 6)],none,none⟩,⟨.build [.int .i64 0,.int .i64 0] [(0,1),(1,1)],[.tmp 5,.tmp 7],none,none⟩,⟨.lit 1 2 [.int .i64 0,.int .i64 0] [(0,2)],[.tmp 8],none,none⟩,
 ⟨.append 2 16,[.tmp 0,.tmp 9],none,none⟩,⟨.mov,[.tmp 10],some 5,none⟩]) (.region [⟨.mov,[.loc 1],none,none⟩,⟨.bin .mul,[.tmp 0,.c (.int .i64 31)],none,none⟩,⟨.mov,[.loc 7],none,none⟩,⟨.bin .mul,[.c (.int .i64 7),.tmp 2],none,none⟩,⟨.bin .add,[.tmp 1,.tmp 3],none,none⟩,
 ⟨.bin .add,[.tmp 4,.c (.int .i64 11)],none,none⟩,⟨.bin .rem,[.tmp 5,.c (.int .i64 100003)],none,none⟩,⟨.mov,[.tmp 6],some 1,none⟩]))))) (.region [⟨.mov,[.loc 7],none,none⟩,⟨.bin .add,[.tmp 0,.c (.int .i64 1)],none,none⟩,
 ⟨.mov,[.tmp 1],some 7,none⟩])))))) (.seq (.draw [0,1,2,3,4,5,6,7,8,9,10,11,12,13,14,15,16,17,18,19,20,21,22,23,24,25,26,27,28,29,30,31,32,33,34,35,36,37,38,39,40,41,42] 0 [⟨.load (some 6),[.loc 6],none,none⟩,⟨.mov,[.loc 2],none,none⟩,⟨.bin .rem,[.tmp 1,.c (.int .i64 3)],none,none⟩,
 ⟨.mov,[.loc 2],none,none⟩,⟨.bin .quo,[.tmp 3,.c (.int .i64 2)],none,none⟩,⟨.bin .rem,[.tmp 4,.c (.int .i64 3)],none,none⟩,⟨.mov,[.loc 3],none,none⟩,⟨.slice 1 false true false,[.tmp 6,.c (.int .i64 20)],none,none⟩,⟨.mov,[.loc 4],none,none⟩,⟨.call 265,[.tmp 0,.tmp 2,.tmp 5,.tmp 7,.tmp 8],none,none⟩,
 ⟨.not,[.tmp 9],none,none⟩,⟨.mov,[.tmp 10],none,none⟩,⟨.load (some 6),[.loc 6],none,some (11,false)⟩,⟨.mov,[.loc 2],none,some (11,false)⟩,⟨.faddr 0,[.loc 6],none,some (11,false)⟩,⟨.load none,[.tmp 14],none,some (11,false)⟩,⟨.bin .rem,[.tmp 13,.tmp 15],none,some (11,false)⟩,
 ⟨.mov,[.loc 2],none,some (11,false)⟩,⟨.bin .add,[.tmp 17,.c (.int .i64 1)],none,some (11,false)⟩,⟨.faddr 0,[.loc 6],none,some (11,false)⟩,⟨.load none,[.tmp 19],none,some (11,false)⟩,⟨.bin .rem,[.tmp 18,.tmp 20],none,some (11,false)⟩,⟨.mov,[.loc 3],none,some (11,false)⟩,
 ⟨.slice 1 true true false,[.tmp 22,.c (.int .i64 20),.c (.int .i64 40)],none,some (11,false)⟩,⟨.make 3 24 [.bool false,.int .i64 0,.int .u64 0],[.c (.int .i64 40),.c (.int .i64 40)],none,some (11,false)⟩,⟨.call 265,[.tmp 12,.tmp 16,.tmp 21,.tmp 23,.tmp 24],none,some (11,false)⟩,
 ⟨.not,[.tmp 25],none,some (11,false)⟩,⟨.pick,[.tmp 11,.c (.bool true),.tmp 26],none,none⟩,⟨.mov,[.tmp 27],none,none⟩,⟨.load (some 6),[.loc 6],none,some (28,false)⟩,⟨.mov,[.loc 3],none,some (28,false)⟩,⟨.slice 1 true false false,[.tmp 30,.c (.int .i64 40)],none,some (28,false)⟩,
 ⟨.mov,[.loc 5],none,some (28,false)⟩,⟨.call 266,[.tmp 29,.tmp 31,.tmp 32],none,some (28,false)⟩,⟨.not,[.tmp 33],none,some (28,false)⟩,⟨.pick,[.tmp 28,.c (.bool true),.tmp 34],none,none⟩,⟨.mov,[.tmp 35],none,none⟩,⟨.load (some 6),[.loc 6],none,some (36,false)⟩,⟨.mov,[.loc 2],none,some (36,false)⟩,
 ⟨.bin .rem,[.tmp 38,.c (.int .i64 4)],none,some (36,false)⟩,⟨.call 267,[.tmp 37,.tmp 39],none,some (36,false)⟩,⟨.not,[.tmp 40],none,some (36,false)⟩,⟨.pick,[.tmp 36,.c (.bool true),.tmp 41],some 10,none⟩] [(12,[25]),(15,[25]),(20,[25]),(23,[25])]) (.cond (.loc 10) (.seq (.region [
 ⟨.mov,[.c (.bool false)],some 0,none⟩]) .ret) .skip)))))))) (.region [⟨.mov,[.loc 2],none,none⟩,⟨.bin .add,[.tmp 0,.c (.int .i64 1)],none,none⟩,⟨.mov,[.tmp 1],some 2,none⟩])))))) (.seq (.region [⟨.build [.int .i64 0,.int .i64 0,.int .i64 0,.int .i64 0,.int .i64 0,.int .i64 0] [],[],none,none⟩,
 ⟨.make 3 24 [.bool false,.int .i64 0,.int .u64 0],[.c (.int .i64 3),.c (.int .i64 3)],none,none⟩,⟨.call 265,[.tmp 0,.c (.int .i64 0),.c (.int .i64 1),.c (.nils),.tmp 1],none,none⟩,⟨.mov,[.tmp 2],none,none⟩,⟨.call 268,[],none,some (3,true)⟩,⟨.pick,[.tmp 3,.tmp 4,.c (.bool false)],none,none⟩,
 ⟨.mov,[.tmp 5],some 0,none⟩]) .ret))))}
def docs_Made:AFn:=F11.docs_Made
def conf_Config_Word:AFn:=F11.conf_Config_Word
def law11_StealPlays:AFn:=F11.law11_StealPlays
def law11_StealKeeps:AFn:=F11.law11_StealKeeps
def law11_StealNone:AFn:=F11.law11_StealNone
def law11_works:AFn:=F11.law11_works
def kit_Pick:AFn:=F11.kit_Pick
def conf_own_at:AFn:=F11.conf_own_at
def docs_Mem:AFn:=F11.docs_Mem
def docs_Filled:AFn:=F11.docs_Filled
def steal_New:AFn:=F11.steal_New
def ref11_New:AFn:=F11.ref11_New
def docs_Config:AFn:=F11.docs_Config
def law11_is:AFn:=F11.law11_is
def docs_SameMem:AFn:=F11.docs_SameMem
def cell_Mem_Ops:AFn:=F11.cell_Mem_Ops
def ref11_Step:AFn:=F11.ref11_Step
def steal_Steal_Step:AFn:=F11.steal_Steal_Step
def cell_Mem_Store:AFn:=F11.cell_Mem_Store
def ref06_Store:AFn:=F11.ref06_Store
def docs_Ring:AFn:=F11.docs_Ring
def put_New:AFn:=F11.put_New
def steal_Steal_Many:AFn:=F11.steal_Steal_Many
def kit_SameInts:AFn:=F11.kit_SameInts
def steal_Steal_Hands:AFn:=F11.steal_Steal_Hands
def put_Put_Step:AFn:=F11.put_Put_Step
def put_Put_Over:AFn:=F11.put_Put_Over
def docs_Thief:AFn:=F11.docs_Thief
def steal_Steal_Done:AFn:=F11.steal_Steal_Done
def steal_Steal_Got:AFn:=F11.steal_Steal_Got
def steal_Steal_Left:AFn:=F11.steal_Steal_Left
def law11_same:AFn:=F11.law11_same
def cell_New:AFn:=F11.cell_New
def law11_rings:AFn:=F11.law11_rings
def conf_Config_Right:AFn:=F11.conf_Config_Right
def conf_within:AFn:=F11.conf_within
def ref06_New:AFn:=F11.ref06_New
def conf_Config_Cells:AFn:=F11.conf_Config_Cells
def docs_byteAt:AFn:=F11.docs_byteAt
def conf_Config_Slot:AFn:=F11.conf_Config_Slot
def conf_Config_Next:AFn:=F11.conf_Config_Next
def conf_Config_Stat:AFn:=F11.conf_Config_Stat
def conf_Config_Tick:AFn:=F11.conf_Config_Tick
def conf_Config_Sys:AFn:=F11.conf_Config_Sys
def conf_Config_Flag:AFn:=F11.conf_Config_Flag
def ref09_There:AFn:=F11.ref09_There
def ref11_Hands:AFn:=F11.ref11_Hands
def cell_Mem_Len:AFn:=F11.cell_Mem_Len
def docs_SameCells:AFn:=F11.docs_SameCells
def cell_Mem_All:AFn:=F11.cell_Mem_All
def ref09_Size:AFn:=F11.ref09_Size
def ref09_Head:AFn:=F11.ref09_Head
def ref09_Tail:AFn:=F11.ref09_Tail
def ref06_Load:AFn:=F11.ref06_Load
def ref09_Word:AFn:=F11.ref09_Word
def ref09_Slot:AFn:=F11.ref09_Slot
def ref06_CAS:AFn:=F11.ref06_CAS
def ref09_Pack:AFn:=F11.ref09_Pack
def ref09_NewLay:AFn:=F11.ref09_NewLay
def ref09_StepLay:AFn:=F11.ref09_StepLay
def steal_Steal_look:AFn:=F11.steal_Steal_look
def steal_Steal_copy:AFn:=F11.steal_Steal_copy
def steal_Steal_gain:AFn:=F11.steal_Steal_gain
def put_Lay_Step:AFn:=F11.put_Lay_Step
def cell_Mem_access:AFn:=F11.cell_Mem_access
def cell_Mem_Store_1:AFn:=F11.cell_Mem_Store_1
def ref06_there:AFn:=F11.ref06_there
def ref06_with:AFn:=F11.ref06_with
def put_from:AFn:=F11.put_from
def slices_Concat_int:AFn:=F11.slices_Concat_int
def steal_rest_Rest:AFn:=F11.steal_rest_Rest
def put_Put_Done:AFn:=F11.put_Put_Done
def put_ways:AFn:=F11.put_ways
def slices_Clone_int:AFn:=F11.slices_Clone_int
def cell_Mem_Load:AFn:=F11.cell_Mem_Load
def ref05_Right:AFn:=F11.ref05_Right
def slices_Clone_uint64:AFn:=F11.slices_Clone_uint64
def word_Len:AFn:=F11.word_Len
def word_Head:AFn:=F11.word_Head
def steal_Steal_half:AFn:=F11.steal_Steal_half
def cell_Mem_CAS:AFn:=F11.cell_Mem_CAS
def word_Gain:AFn:=F11.word_Gain
def put_NewLay:AFn:=F11.put_NewLay
def put_Lay_Done:AFn:=F11.put_Lay_Done
def put_Lay_look:AFn:=F11.put_Lay_look
def put_ring_slot:AFn:=F11.put_ring_slot
def put_ring_change:AFn:=F11.put_ring_change
def word_Grow:AFn:=F11.word_Grow
def cell_Mem_there:AFn:=F11.cell_Mem_there
def cell_counts_note:AFn:=F11.cell_counts_note
def slices_Grow_int:AFn:=F11.slices_Grow_int
def put_Lay_Hands:AFn:=F11.put_Lay_Hands
def put_Put_look:AFn:=F11.put_Put_look
def put_Put_lay:AFn:=F11.put_Put_lay
def put_Put_swing:AFn:=F11.put_Put_swing
def put_Put_take:AFn:=F11.put_Put_take
def put_Put_cut:AFn:=F11.put_Put_cut
def cell_Mem_Load_1:AFn:=F11.cell_Mem_Load_1
def word_Tail:AFn:=F11.word_Tail
def word_Older:AFn:=F11.word_Older
def cell_Mem_CAS_1:AFn:=F11.cell_Mem_CAS_1
def word_Pack:AFn:=F11.word_Pack
def slices_DeleteFunc_int:AFn:=F11.slices_DeleteFunc_int
def put_NewLay_1:AFn:=F11.put_NewLay_1
def put_ring_load:AFn:=F11.put_ring_load
def put_Put_half:AFn:=F11.put_Put_half
def word_Drop:AFn:=F11.word_Drop
def slices_IndexFunc_int:AFn:=F11.slices_IndexFunc_int
end Go.Am.F12
end
