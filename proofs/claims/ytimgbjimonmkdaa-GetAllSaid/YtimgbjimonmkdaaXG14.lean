import Derived.Test.YtimgbjimonmkdaaXG13
set_option linter.unusedSimpArgs false
set_option linter.unusedVariables false
section
namespace Go.Am.F06
set_option maxRecDepth 10000
def cell_New : AFn := { nloc := 2, npar := 1, res := [.loc 1], body :=
    (.seq
    (.region [
    ⟨.mov, [.c (.nilp)], some 1, none⟩])
    (.seq
    (.region [
    ⟨.mov, [.loc 0], none, none⟩,
    ⟨.min, [.tmp 0, .c (.int .i64 65536)], none, none⟩,
    ⟨.max, [.c (.int .i64 0), .tmp 1], none, none⟩,
    ⟨.make 1 8 [.int .u64 0], [.tmp 2, .tmp 2], none, none⟩,
    ⟨.build [.int .u64 0, .int .u64 0, .int .u64 0, .int .u64 0, .int .u64 0, .int .u64 0, .nils, .nils] [(7, 1)], [.tmp 3], none, none⟩,
    ⟨.box, [.tmp 4], none, none⟩,
    ⟨.mov, [.tmp 5], some 1, none⟩])
    .ret)) }
def cell_Mem_Store : AFn := { nloc := 4, npar := 3, res := [], body :=
    (.seq
    (.region [
    ⟨.box, [.loc 2], some 3, none⟩])
    (.region [
    ⟨.mov, [.loc 0], none, none⟩,
    ⟨.mov, [.loc 1], none, none⟩,
    ⟨.mkfn 49 0, [.loc 3], none, none⟩,
    ⟨.call 50, [.tmp 0, .c (.int .i64 2), .tmp 1, .tmp 2], none, none⟩])) }
def cell_Mem_CAS : AFn := { nloc := 8, npar := 4, res := [.loc 6], body :=
    (.seq
    (.region [
    ⟨.box, [.loc 2], some 4, none⟩,
    ⟨.box, [.loc 3], some 5, none⟩,
    ⟨.mov, [.c (.bool false)], some 6, none⟩])
    (.seq
    (.region [
    ⟨.mov, [.loc 0], none, none⟩,
    ⟨.mov, [.loc 1], none, none⟩,
    ⟨.mkfn 51 0, [.loc 4, .loc 5], none, none⟩,
    ⟨.call 50, [.tmp 0, .c (.int .i64 3), .tmp 1, .tmp 2], none, none⟩,
    ⟨.mov, [.tmp 3], none, none⟩,
    ⟨.extract 0, [.tmp 4], none, none⟩,
    ⟨.extract 1, [.tmp 4], none, none⟩,
    ⟨.mov, [.tmp 5], none, none⟩,
    ⟨.mov, [.tmp 6], some 7, none⟩])
    (.seq
    (.region [
    ⟨.mov, [.loc 7], none, none⟩,
    ⟨.mov, [.tmp 0], some 6, none⟩])
    .ret))) }
def cell_Mem_Load : AFn := { nloc := 4, npar := 2, res := [.loc 2], body :=
    (.seq
    (.region [
    ⟨.mov, [.c (.int .u64 0)], some 2, none⟩])
    (.seq
    (.region [
    ⟨.mov, [.loc 0], none, none⟩,
    ⟨.mov, [.loc 1], none, none⟩,
    ⟨.call 50, [.tmp 0, .c (.int .i64 1), .tmp 1, .c (.fn 52 [] [])], none, none⟩,
    ⟨.mov, [.tmp 2], none, none⟩,
    ⟨.extract 0, [.tmp 3], none, none⟩,
    ⟨.extract 1, [.tmp 3], none, none⟩,
    ⟨.mov, [.tmp 4], some 3, none⟩,
    ⟨.mov, [.tmp 5], none, none⟩])
    (.seq
    (.region [
    ⟨.mov, [.loc 3], none, none⟩,
    ⟨.mov, [.tmp 0], some 2, none⟩])
    .ret))) }
def cell_Mem_Len : AFn := { nloc := 3, npar := 1, res := [.loc 1], body :=
    (.seq
    (.region [
    ⟨.mov, [.c (.int .i64 0)], some 1, none⟩])
    (.seq
    (.seq
    (.region [
    ⟨.mov, [.loc 0], none, none⟩,
    ⟨.eqv .ptr false, [.tmp 0, .c (.nilp)], some 2, none⟩])
    (.cond (.loc 2)
      (.seq
      (.region [
    ⟨.mov, [.c (.int .i64 0)], some 1, none⟩])
      .ret)
      .skip))
    (.seq
    (.region [
    ⟨.mov, [.loc 0], none, none⟩,
    ⟨.nilc, [.tmp 0], none, none⟩,
    ⟨.faddr 7, [.tmp 1], none, none⟩,
    ⟨.load none, [.tmp 2], none, none⟩,
    ⟨.len, [.tmp 3], none, none⟩,
    ⟨.mov, [.tmp 4], some 1, none⟩])
    .ret))) }
def cell_Mem_Ops : AFn := { nloc := 3, npar := 1, res := [.loc 1], body :=
    (.seq
    (.region [
    ⟨.mov, [.c (.int .u64 0)], some 1, none⟩])
    (.seq
    (.seq
    (.region [
    ⟨.mov, [.loc 0], none, none⟩,
    ⟨.eqv .ptr false, [.tmp 0, .c (.nilp)], some 2, none⟩])
    (.cond (.loc 2)
      (.seq
      (.region [
    ⟨.mov, [.c (.int .u64 0)], some 1, none⟩])
      .ret)
      .skip))
    (.seq
    (.region [
    ⟨.mov, [.loc 0], none, none⟩,
    ⟨.nilc, [.tmp 0], none, none⟩,
    ⟨.faddr 0, [.tmp 1], none, none⟩,
    ⟨.faddr 0, [.tmp 2], none, none⟩,
    ⟨.load none, [.tmp 3], none, none⟩,
    ⟨.mov, [.tmp 4], some 1, none⟩])
    .ret))) }
def cell_Mem_All : AFn := { nloc := 3, npar := 1, res := [.loc 1], body :=
    (.seq
    (.region [
    ⟨.mov, [.c (.nils)], some 1, none⟩])
    (.seq
    (.seq
    (.region [
    ⟨.mov, [.loc 0], none, none⟩,
    ⟨.eqv .ptr false, [.tmp 0, .c (.nilp)], some 2, none⟩])
    (.cond (.loc 2)
      (.seq
      (.region [
    ⟨.mov, [.c (.nils)], some 1, none⟩])
      .ret)
      .skip))
    (.seq
    (.region [
    ⟨.mov, [.loc 0], none, none⟩,
    ⟨.nilc, [.tmp 0], none, none⟩,
    ⟨.faddr 7, [.tmp 1], none, none⟩,
    ⟨.load none, [.tmp 2], none, none⟩,
    ⟨.call 61, [.tmp 3], none, none⟩,
    ⟨.mov, [.tmp 4], some 1, none⟩])
    .ret))) }
def cell_Mem_access : AFn := { nloc := 8, npar := 4, res := [.loc 4, .loc 5], body :=
    (.seq
    (.region [
    ⟨.mov, [.c (.int .u64 0)], some 4, none⟩,
    ⟨.mov, [.c (.bool false)], some 5, none⟩])
    (.seq
    (.seq
    (.region [
    ⟨.mov, [.loc 0], none, none⟩,
    ⟨.mov, [.loc 2], none, none⟩,
    ⟨.call 56, [.tmp 0, .tmp 1], none, none⟩,
    ⟨.not, [.tmp 2], some 7, none⟩])
    (.cond (.loc 7)
      (.seq
      (.region [
    ⟨.mov, [.c (.int .u64 0)], some 4, none⟩,
    ⟨.mov, [.c (.bool false)], some 5, none⟩])
      .ret)
      .skip))
    (.seq
    (.region [
    ⟨.mov, [.loc 0], none, none⟩,
    ⟨.nilc, [.tmp 0], none, none⟩,
    ⟨.faddr 7, [.tmp 1], none, none⟩,
    ⟨.load none, [.tmp 2], none, none⟩,
    ⟨.mov, [.loc 2], none, none⟩,
    ⟨.iaddr 1 none, [.tmp 3, .tmp 4], none, none⟩,
    ⟨.load none, [.tmp 5], none, none⟩,
    ⟨.mov, [.tmp 6], some 4, none⟩])
    (.seq
    (.region [
    ⟨.mov, [.loc 3], none, none⟩,
    ⟨.mov, [.loc 4], none, none⟩,
    ⟨.callv, [.tmp 0, .tmp 1], none, none⟩,
    ⟨.mov, [.tmp 2], none, none⟩,
    ⟨.extract 0, [.tmp 3], none, none⟩,
    ⟨.extract 1, [.tmp 3], none, none⟩,
    ⟨.mov, [.tmp 4], some 6, none⟩,
    ⟨.mov, [.tmp 5], some 5, none⟩])
    (.seq
    (.region [
    ⟨.mov, [.loc 0], none, none⟩,
    ⟨.nilc, [.tmp 0], none, none⟩,
    ⟨.faddr 7, [.tmp 1], none, none⟩,
    ⟨.load none, [.tmp 2], none, none⟩,
    ⟨.mov, [.loc 2], none, none⟩,
    ⟨.mov, [.loc 6], none, none⟩,
    ⟨.iaddr 1 none, [.tmp 3, .tmp 4], none, none⟩,
    ⟨.store 1, [.tmp 6, .tmp 5], none, none⟩])
    (.seq
    (.region [
    ⟨.mov, [.loc 0], none, none⟩,
    ⟨.nilc, [.tmp 0], none, none⟩,
    ⟨.faddr 0, [.tmp 1], none, none⟩,
    ⟨.mov, [.loc 1], none, none⟩,
    ⟨.mov, [.loc 2], none, none⟩,
    ⟨.mov, [.loc 4], none, none⟩,
    ⟨.mov, [.loc 6], none, none⟩,
    ⟨.build [.int .i64 0, .int .i64 0, .int .u64 0, .int .u64 0] [(0, 1), (1, 1), (2, 1), (3, 1)], [.tmp 3, .tmp 4, .tmp 5, .tmp 6], none, none⟩,
    ⟨.mov, [.loc 5], none, none⟩,
    ⟨.call 71, [.tmp 2, .tmp 7, .tmp 8], none, none⟩])
    (.seq
    (.region [
    ⟨.mov, [.loc 4], none, none⟩,
    ⟨.mov, [.loc 5], none, none⟩,
    ⟨.mov, [.tmp 0], some 4, none⟩,
    ⟨.mov, [.tmp 1], some 5, none⟩])
    .ret))))))) }
def cell_Mem_Store_1 : AFn := { nloc := 4, npar := 2, res := [.loc 2, .loc 3], body :=
    (.seq
    (.region [
    ⟨.mov, [.c (.int .u64 0)], some 2, none⟩,
    ⟨.mov, [.c (.bool false)], some 3, none⟩])
    (.seq
    (.region [
    ⟨.load none, [.loc 1], none, none⟩,
    ⟨.mov, [.tmp 0], some 2, none⟩,
    ⟨.mov, [.c (.bool true)], some 3, none⟩])
    .ret)) }
def cell_Mem_CAS_1 : AFn := { nloc := 6, npar := 3, res := [.loc 3, .loc 4], body :=
    (.seq
    (.region [
    ⟨.mov, [.c (.int .u64 0)], some 3, none⟩,
    ⟨.mov, [.c (.bool false)], some 4, none⟩])
    (.seq
    (.seq
    (.region [
    ⟨.mov, [.loc 0], none, none⟩,
    ⟨.load none, [.loc 1], none, none⟩,
    ⟨.bin .neq, [.tmp 0, .tmp 1], some 5, none⟩])
    (.cond (.loc 5)
      (.seq
      (.region [
    ⟨.mov, [.loc 0], none, none⟩,
    ⟨.mov, [.tmp 0], some 3, none⟩,
    ⟨.mov, [.c (.bool false)], some 4, none⟩])
      .ret)
      .skip))
    (.seq
    (.region [
    ⟨.load none, [.loc 2], none, none⟩,
    ⟨.mov, [.tmp 0], some 3, none⟩,
    ⟨.mov, [.c (.bool true)], some 4, none⟩])
    .ret))) }
def cell_Mem_Load_1 : AFn := { nloc := 3, npar := 1, res := [.loc 1, .loc 2], body :=
    (.seq
    (.region [
    ⟨.mov, [.c (.int .u64 0)], some 1, none⟩,
    ⟨.mov, [.c (.bool false)], some 2, none⟩])
    (.seq
    (.region [
    ⟨.mov, [.loc 0], none, none⟩,
    ⟨.mov, [.tmp 0], some 1, none⟩,
    ⟨.mov, [.c (.bool true)], some 2, none⟩])
    .ret)) }
def ref06_At : AFn := { nloc := 7, npar := 2, res := [.loc 3], body :=
    (.seq
    (.region [
    ⟨.box, [.loc 0], some 2, none⟩,
    ⟨.mov, [.c (.int .u64 0)], some 3, none⟩])
    (.seq
    (.seq
    (.region [
    ⟨.faddr 1, [.loc 2], none, none⟩,
    ⟨.load none, [.tmp 0], none, none⟩,
    ⟨.len, [.tmp 1], none, none⟩,
    ⟨.bin .sub, [.tmp 2, .c (.int .i64 1)], none, none⟩,
    ⟨.mov, [.tmp 3], some 4, none⟩])
    (.block 0
    (.loop
    (.seq
    (.seq
    (.region [
    ⟨.mov, [.loc 4], none, none⟩,
    ⟨.bin .geq, [.tmp 0, .c (.int .i64 0)], some 5, none⟩])
    (.cond (.loc 5)
      .skip
      (.exit 0)))
    (.seq
    (.block 1
    (.seq
    (.region [
    ⟨.faddr 1, [.loc 2], none, none⟩,
    ⟨.load none, [.tmp 0], none, none⟩,
    ⟨.mov, [.loc 4], none, none⟩,
    ⟨.iaddr 4 none, [.tmp 1, .tmp 2], none, none⟩,
    ⟨.faddr 1, [.tmp 3], none, none⟩,
    ⟨.load none, [.tmp 4], none, none⟩,
    ⟨.mov, [.loc 1], none, none⟩,
    ⟨.bin .eql, [.tmp 5, .tmp 6], some 6, none⟩])
    (.cond (.loc 6)
      (.seq
      (.region [
    ⟨.faddr 1, [.loc 2], none, none⟩,
    ⟨.load none, [.tmp 0], none, none⟩,
    ⟨.mov, [.loc 4], none, none⟩,
    ⟨.iaddr 4 none, [.tmp 1, .tmp 2], none, none⟩,
    ⟨.faddr 3, [.tmp 3], none, none⟩,
    ⟨.load none, [.tmp 4], none, none⟩,
    ⟨.mov, [.tmp 5], some 3, none⟩])
      .ret)
      .skip)))
    (.region [
    ⟨.mov, [.loc 4], none, none⟩,
    ⟨.bin .sub, [.tmp 0, .c (.int .i64 1)], none, none⟩,
    ⟨.mov, [.tmp 1], some 4, none⟩]))))))
    (.seq
    (.region [
    ⟨.mov, [.c (.int .u64 0)], some 3, none⟩])
    .ret))) }
def cell_Mem_there : AFn := { nloc := 3, npar := 2, res := [.loc 2], body :=
    (.seq
    (.region [
    ⟨.mov, [.c (.bool false)], some 2, none⟩])
    (.seq
    (.region [
    ⟨.mov, [.loc 0], none, none⟩,
    ⟨.eqv .ptr true, [.tmp 0, .c (.nilp)], none, none⟩,
    ⟨.mov, [.tmp 1], none, none⟩,
    ⟨.mov, [.loc 1], none, some (2, true)⟩,
    ⟨.bin .geq, [.tmp 3, .c (.int .i64 0)], none, some (2, true)⟩,
    ⟨.pick, [.tmp 2, .tmp 4, .c (.bool false)], none, none⟩,
    ⟨.mov, [.tmp 5], none, none⟩,
    ⟨.mov, [.loc 1], none, some (6, true)⟩,
    ⟨.mov, [.loc 0], none, some (6, true)⟩,
    ⟨.nilc, [.tmp 8], none, some (6, true)⟩,
    ⟨.faddr 7, [.tmp 9], none, some (6, true)⟩,
    ⟨.load none, [.tmp 10], none, some (6, true)⟩,
    ⟨.len, [.tmp 11], none, some (6, true)⟩,
    ⟨.bin .lss, [.tmp 7, .tmp 12], none, some (6, true)⟩,
    ⟨.pick, [.tmp 6, .tmp 13, .c (.bool false)], none, none⟩,
    ⟨.mov, [.tmp 14], some 2, none⟩])
    .ret)) }
def docs_SameCells : AFn := { nloc := 7, npar := 2, res := [.loc 2], body :=
    (.seq
    (.region [
    ⟨.mov, [.c (.bool false)], some 2, none⟩])
    (.seq
    (.seq
    (.region [
    ⟨.mov, [.loc 0], none, none⟩,
    ⟨.len, [.tmp 0], none, none⟩,
    ⟨.mov, [.loc 1], none, none⟩,
    ⟨.len, [.tmp 2], none, none⟩,
    ⟨.bin .neq, [.tmp 1, .tmp 3], some 4, none⟩])
    (.cond (.loc 4)
      (.seq
      (.region [
    ⟨.mov, [.c (.bool false)], some 2, none⟩])
      .ret)
      .skip))
    (.seq
    (.seq
    (.region [
    ⟨.mov, [.c (.int .i64 0)], some 3, none⟩])
    (.block 0
    (.loop
    (.seq
    (.seq
    (.region [
    ⟨.mov, [.loc 3], none, none⟩,
    ⟨.mov, [.loc 0], none, none⟩,
    ⟨.len, [.tmp 1], none, none⟩,
    ⟨.bin .lss, [.tmp 0, .tmp 2], some 5, none⟩])
    (.cond (.loc 5)
      .skip
      (.exit 0)))
    (.seq
    (.block 1
    (.seq
    (.seq
    (.region [
    ⟨.mov, [.loc 0], none, none⟩,
    ⟨.mov, [.loc 3], none, none⟩,
    ⟨.iaddr 1 none, [.tmp 0, .tmp 1], none, none⟩,
    ⟨.load none, [.tmp 2], none, none⟩,
    ⟨.mov, [.loc 1], none, none⟩,
    ⟨.mov, [.loc 3], none, none⟩,
    ⟨.iaddr 1 none, [.tmp 4, .tmp 5], none, none⟩,
    ⟨.load none, [.tmp 6], none, none⟩,
    ⟨.bin .neq, [.tmp 3, .tmp 7], some 6, none⟩])
    (.cond (.loc 6)
      (.seq
      (.region [
    ⟨.mov, [.c (.bool false)], some 2, none⟩])
      .ret)
      .skip))
    (.region [
    ⟨.mov, [.loc 0], none, none⟩,
    ⟨.mov, [.loc 3], none, none⟩,
    ⟨.mov, [.loc 0], none, none⟩,
    ⟨.mov, [.loc 3], none, none⟩,
    ⟨.iaddr 1 none, [.tmp 2, .tmp 3], none, none⟩,
    ⟨.load none, [.tmp 4], none, none⟩,
    ⟨.bin .add, [.tmp 5, .c (.int .u64 77)], none, none⟩,
    ⟨.iaddr 1 none, [.tmp 0, .tmp 1], none, none⟩,
    ⟨.store 1, [.tmp 7, .tmp 6], none, none⟩])))
    (.region [
    ⟨.mov, [.loc 3], none, none⟩,
    ⟨.bin .add, [.tmp 0, .c (.int .i64 1)], none, none⟩,
    ⟨.mov, [.tmp 1], some 3, none⟩]))))))
    (.seq
    (.region [
    ⟨.mov, [.c (.bool true)], some 2, none⟩])
    .ret)))) }
def slices_Clone_uint64 : AFn := { nloc := 3, npar := 1, res := [.loc 1], body :=
    (.seq
    (.region [
    ⟨.mov, [.c (.nils)], some 1, none⟩])
    (.seq
    (.seq
    (.region [
    ⟨.mov, [.loc 0], none, none⟩,
    ⟨.eqv .slc false, [.tmp 0, .c (.nils)], some 2, none⟩])
    (.cond (.loc 2)
      (.seq
      (.region [
    ⟨.mov, [.c (.nils)], some 1, none⟩])
      .ret)
      .skip))
    (.seq
    (.region [
    ⟨.lit 0 1 [.int .u64 0] [], [], none, none⟩,
    ⟨.mov, [.loc 0], none, none⟩,
    ⟨.append 1 8, [.tmp 0, .tmp 1], none, none⟩,
    ⟨.mov, [.tmp 2], some 1, none⟩])
    .ret))) }
def ref06_New : AFn := { nloc := 2, npar := 1, res := [.cell 1 (some 2)], body :=
    (.seq
    (.region [
    ⟨.alloc [.nils, .int .u64 0], [], some 1, none⟩])
    (.seq
    (.region [
    ⟨.mov, [.loc 0], none, none⟩,
    ⟨.min, [.tmp 0, .c (.int .i64 65536)], none, none⟩,
    ⟨.max, [.c (.int .i64 0), .tmp 1], none, none⟩,
    ⟨.make 1 8 [.int .u64 0], [.tmp 2, .tmp 2], none, none⟩,
    ⟨.build [.nils, .int .u64 0] [(0, 1)], [.tmp 3], none, none⟩,
    ⟨.store 2, [.loc 1, .tmp 4], none, none⟩])
    .ret)) }
def ref06_Load : AFn := { nloc := 6, npar := 2, res := [.cell 3 (some 2), .loc 4], body :=
    (.seq
    (.region [
    ⟨.box, [.loc 0], some 2, none⟩,
    ⟨.alloc [.nils, .int .u64 0], [], some 3, none⟩,
    ⟨.mov, [.c (.int .u64 0)], some 4, none⟩])
    (.seq
    (.seq
    (.region [
    ⟨.load (some 2), [.loc 2], none, none⟩,
    ⟨.mov, [.loc 1], none, none⟩,
    ⟨.call 72, [.tmp 0, .tmp 1], none, none⟩,
    ⟨.not, [.tmp 2], some 5, none⟩])
    (.cond (.loc 5)
      (.seq
      (.region [
    ⟨.load (some 2), [.loc 2], none, none⟩,
    ⟨.store 2, [.loc 3, .tmp 0], none, none⟩,
    ⟨.mov, [.c (.int .u64 0)], some 4, none⟩])
      .ret)
      .skip))
    (.seq
    (.draw [0, 1, 2, 3, 4, 5, 6, 7, 8, 9, 10, 11, 12] 0 [
    ⟨.faddr 0, [.loc 2], none, none⟩,
    ⟨.load none, [.tmp 0], none, none⟩,
    ⟨.faddr 1, [.loc 2], none, none⟩,
    ⟨.load none, [.tmp 2], none, none⟩,
    ⟨.bin .add, [.tmp 3, .c (.int .u64 1)], none, none⟩,
    ⟨.build [.nils, .int .u64 0] [(0, 1), (1, 1)], [.tmp 1, .tmp 4], none, none⟩,
    ⟨.faddr 0, [.loc 2], none, none⟩,
    ⟨.load none, [.tmp 6], none, none⟩,
    ⟨.mov, [.loc 1], none, none⟩,
    ⟨.iaddr 1 none, [.tmp 7, .tmp 8], none, none⟩,
    ⟨.load none, [.tmp 9], none, none⟩,
    ⟨.store 2, [.loc 3, .tmp 5], none, none⟩,
    ⟨.mov, [.tmp 10], some 4, none⟩] [(7, [12]), (10, [12])])
    .ret))) }
def ref06_Store : AFn := { nloc := 6, npar := 3, res := [.cell 4 (some 2)], body :=
    (.seq
    (.region [
    ⟨.box, [.loc 0], some 3, none⟩,
    ⟨.alloc [.nils, .int .u64 0], [], some 4, none⟩])
    (.seq
    (.seq
    (.region [
    ⟨.load (some 2), [.loc 3], none, none⟩,
    ⟨.mov, [.loc 1], none, none⟩,
    ⟨.call 72, [.tmp 0, .tmp 1], none, none⟩,
    ⟨.not, [.tmp 2], some 5, none⟩])
    (.cond (.loc 5)
      (.seq
      (.region [
    ⟨.load (some 2), [.loc 3], none, none⟩,
    ⟨.store 2, [.loc 4, .tmp 0], none, none⟩])
      .ret)
      .skip))
    (.seq
    (.region [
    ⟨.load (some 2), [.loc 3], none, none⟩,
    ⟨.mov, [.loc 1], none, none⟩,
    ⟨.mov, [.loc 2], none, none⟩,
    ⟨.call 73, [.tmp 0, .tmp 1, .tmp 2], none, none⟩,
    ⟨.store 2, [.loc 4, .tmp 3], none, none⟩])
    .ret))) }
def ref06_CAS : AFn := { nloc := 9, npar := 4, res := [.cell 5 (some 2), .loc 6], body :=
    (.seq
    (.region [
    ⟨.box, [.loc 0], some 4, none⟩,
    ⟨.alloc [.nils, .int .u64 0], [], some 5, none⟩,
    ⟨.mov, [.c (.bool false)], some 6, none⟩])
    (.seq
    (.seq
    (.region [
    ⟨.load (some 2), [.loc 4], none, none⟩,
    ⟨.mov, [.loc 1], none, none⟩,
    ⟨.call 72, [.tmp 0, .tmp 1], none, none⟩,
    ⟨.not, [.tmp 2], some 7, none⟩])
    (.cond (.loc 7)
      (.seq
      (.region [
    ⟨.load (some 2), [.loc 4], none, none⟩,
    ⟨.store 2, [.loc 5, .tmp 0], none, none⟩,
    ⟨.mov, [.c (.bool false)], some 6, none⟩])
      .ret)
      .skip))
    (.seq
    (.seq
    (.region [
    ⟨.faddr 0, [.loc 4], none, none⟩,
    ⟨.load none, [.tmp 0], none, none⟩,
    ⟨.mov, [.loc 1], none, none⟩,
    ⟨.iaddr 1 none, [.tmp 1, .tmp 2], none, none⟩,
    ⟨.load none, [.tmp 3], none, none⟩,
    ⟨.mov, [.loc 2], none, none⟩,
    ⟨.bin .neq, [.tmp 4, .tmp 5], some 8, none⟩])
    (.cond (.loc 8)
      (.seq
      (.region [
    ⟨.faddr 0, [.loc 4], none, none⟩,
    ⟨.load none, [.tmp 0], none, none⟩,
    ⟨.faddr 1, [.loc 4], none, none⟩,
    ⟨.load none, [.tmp 2], none, none⟩,
    ⟨.bin .add, [.tmp 3, .c (.int .u64 1)], none, none⟩,
    ⟨.build [.nils, .int .u64 0] [(0, 1), (1, 1)], [.tmp 1, .tmp 4], none, none⟩,
    ⟨.store 2, [.loc 5, .tmp 5], none, none⟩,
    ⟨.mov, [.c (.bool false)], some 6, none⟩])
      .ret)
      .skip))
    (.seq
    (.region [
    ⟨.load (some 2), [.loc 4], none, none⟩,
    ⟨.mov, [.loc 1], none, none⟩,
    ⟨.mov, [.loc 3], none, none⟩,
    ⟨.call 73, [.tmp 0, .tmp 1, .tmp 2], none, none⟩,
    ⟨.store 2, [.loc 5, .tmp 3], none, none⟩,
    ⟨.mov, [.c (.bool true)], some 6, none⟩])
    .ret)))) }
def docs_SameMem : AFn := { nloc := 4, npar := 2, res := [.loc 3], body :=
    (.seq
    (.region [
    ⟨.box, [.loc 1], some 2, none⟩,
    ⟨.mov, [.c (.bool false)], some 3, none⟩])
    (.seq
    (.draw [0, 1, 2, 3, 4, 5, 6, 7, 8, 9, 10, 11, 12, 13, 14, 15, 16, 17, 18, 19, 20] 0 [
    ⟨.mov, [.loc 0], none, none⟩,
    ⟨.call 34, [.tmp 0], none, none⟩,
    ⟨.faddr 0, [.loc 2], none, none⟩,
    ⟨.load none, [.tmp 2], none, none⟩,
    ⟨.len, [.tmp 3], none, none⟩,
    ⟨.bin .eql, [.tmp 1, .tmp 4], none, none⟩,
    ⟨.mov, [.tmp 5], none, none⟩,
    ⟨.mov, [.loc 0], none, some (6, true)⟩,
    ⟨.call 46, [.tmp 7], none, some (6, true)⟩,
    ⟨.faddr 1, [.loc 2], none, some (6, true)⟩,
    ⟨.load none, [.tmp 9], none, some (6, true)⟩,
    ⟨.bin .eql, [.tmp 8, .tmp 10], none, some (6, true)⟩,
    ⟨.pick, [.tmp 6, .tmp 11, .c (.bool false)], none, none⟩,
    ⟨.mov, [.tmp 12], none, none⟩,
    ⟨.mov, [.loc 0], none, some (13, true)⟩,
    ⟨.call 47, [.tmp 14], none, some (13, true)⟩,
    ⟨.faddr 0, [.loc 2], none, some (13, true)⟩,
    ⟨.load none, [.tmp 16], none, some (13, true)⟩,
    ⟨.call 58, [.tmp 15, .tmp 17], none, some (13, true)⟩,
    ⟨.pick, [.tmp 13, .tmp 18, .c (.bool false)], none, none⟩,
    ⟨.mov, [.tmp 19], some 3, none⟩] [(3, [0]), (10, [2]), (17, [9])])
    .ret)) }
def cell_Mem_Add_1 : AFn := { nloc := 4, npar := 2, res := [.loc 2, .loc 3], body :=
    (.seq
    (.region [
    ⟨.mov, [.c (.int .u64 0)], some 2, none⟩,
    ⟨.mov, [.c (.bool false)], some 3, none⟩])
    (.seq
    (.region [
    ⟨.mov, [.loc 0], none, none⟩,
    ⟨.load none, [.loc 1], none, none⟩,
    ⟨.bin .add, [.tmp 0, .tmp 1], none, none⟩,
    ⟨.mov, [.tmp 2], some 2, none⟩,
    ⟨.mov, [.c (.bool true)], some 3, none⟩])
    .ret)) }
def cell_counts_note : AFn := { nloc := 9, npar := 3, res := [], body :=
    (.seq
    (.region [
    ⟨.box, [.loc 1], some 3, none⟩])
    (.seq
    (.region [
    ⟨.mov, [.loc 0], none, none⟩,
    ⟨.nilc, [.tmp 0], none, none⟩,
    ⟨.faddr 0, [.tmp 1], none, none⟩,
    ⟨.load none, [.tmp 2], none, none⟩,
    ⟨.bin .add, [.tmp 3, .c (.int .u64 1)], none, none⟩,
    ⟨.nilc, [.tmp 0], none, none⟩,
    ⟨.faddr 0, [.tmp 5], none, none⟩,
    ⟨.store 1, [.tmp 6, .tmp 4], none, none⟩])
    (.seq
    (.block 0
    (.seq
    (.region [
    ⟨.faddr 0, [.loc 3], none, none⟩,
    ⟨.load none, [.tmp 0], none, none⟩,
    ⟨.bin .eql, [.tmp 1, .c (.int .i64 1)], none, none⟩,
    ⟨.mov, [.tmp 2], some 4, none⟩])
    (.cond (.loc 4)
      (.region [
    ⟨.mov, [.loc 0], none, none⟩,
    ⟨.nilc, [.tmp 0], none, none⟩,
    ⟨.faddr 1, [.tmp 1], none, none⟩,
    ⟨.faddr 0, [.tmp 2], none, none⟩,
    ⟨.load none, [.tmp 3], none, none⟩,
    ⟨.bin .add, [.tmp 4, .c (.int .u64 1)], none, none⟩,
    ⟨.nilc, [.tmp 0], none, none⟩,
    ⟨.faddr 1, [.tmp 6], none, none⟩,
    ⟨.faddr 0, [.tmp 7], none, none⟩,
    ⟨.store 1, [.tmp 8, .tmp 5], none, none⟩])
      (.seq
      (.region [
    ⟨.faddr 0, [.loc 3], none, none⟩,
    ⟨.load none, [.tmp 0], none, none⟩,
    ⟨.bin .eql, [.tmp 1, .c (.int .i64 2)], none, none⟩,
    ⟨.mov, [.tmp 2], some 5, none⟩])
      (.cond (.loc 5)
        (.region [
    ⟨.mov, [.loc 0], none, none⟩,
    ⟨.nilc, [.tmp 0], none, none⟩,
    ⟨.faddr 1, [.tmp 1], none, none⟩,
    ⟨.faddr 1, [.tmp 2], none, none⟩,
    ⟨.load none, [.tmp 3], none, none⟩,
    ⟨.bin .add, [.tmp 4, .c (.int .u64 1)], none, none⟩,
    ⟨.nilc, [.tmp 0], none, none⟩,
    ⟨.faddr 1, [.tmp 6], none, none⟩,
    ⟨.faddr 1, [.tmp 7], none, none⟩,
    ⟨.store 1, [.tmp 8, .tmp 5], none, none⟩])
        (.seq
        (.region [
    ⟨.faddr 0, [.loc 3], none, none⟩,
    ⟨.load none, [.tmp 0], none, none⟩,
    ⟨.bin .eql, [.tmp 1, .c (.int .i64 3)], none, none⟩,
    ⟨.mov, [.tmp 2], none, none⟩,
    ⟨.mov, [.loc 2], none, some (3, true)⟩,
    ⟨.pick, [.tmp 3, .tmp 4, .c (.bool false)], none, none⟩,
    ⟨.mov, [.tmp 5], some 6, none⟩])
        (.cond (.loc 6)
          (.region [
    ⟨.mov, [.loc 0], none, none⟩,
    ⟨.nilc, [.tmp 0], none, none⟩,
    ⟨.faddr 1, [.tmp 1], none, none⟩,
    ⟨.faddr 2, [.tmp 2], none, none⟩,
    ⟨.load none, [.tmp 3], none, none⟩,
    ⟨.bin .add, [.tmp 4, .c (.int .u64 1)], none, none⟩,
    ⟨.nilc, [.tmp 0], none, none⟩,
    ⟨.faddr 1, [.tmp 6], none, none⟩,
    ⟨.faddr 2, [.tmp 7], none, none⟩,
    ⟨.store 1, [.tmp 8, .tmp 5], none, none⟩])
          (.seq
          (.region [
    ⟨.faddr 0, [.loc 3], none, none⟩,
    ⟨.load none, [.tmp 0], none, none⟩,
    ⟨.bin .eql, [.tmp 1, .c (.int .i64 3)], none, none⟩,
    ⟨.mov, [.tmp 2], some 7, none⟩])
          (.cond (.loc 7)
            (.region [
    ⟨.mov, [.loc 0], none, none⟩,
    ⟨.nilc, [.tmp 0], none, none⟩,
    ⟨.faddr 1, [.tmp 1], none, none⟩,
    ⟨.faddr 3, [.tmp 2], none, none⟩,
    ⟨.load none, [.tmp 3], none, none⟩,
    ⟨.bin .add, [.tmp 4, .c (.int .u64 1)], none, none⟩,
    ⟨.nilc, [.tmp 0], none, none⟩,
    ⟨.faddr 1, [.tmp 6], none, none⟩,
    ⟨.faddr 3, [.tmp 7], none, none⟩,
    ⟨.store 1, [.tmp 8, .tmp 5], none, none⟩])
            (.region [
    ⟨.mov, [.loc 0], none, none⟩,
    ⟨.nilc, [.tmp 0], none, none⟩,
    ⟨.faddr 1, [.tmp 1], none, none⟩,
    ⟨.faddr 4, [.tmp 2], none, none⟩,
    ⟨.load none, [.tmp 3], none, none⟩,
    ⟨.bin .add, [.tmp 4, .c (.int .u64 1)], none, none⟩,
    ⟨.nilc, [.tmp 0], none, none⟩,
    ⟨.faddr 1, [.tmp 6], none, none⟩,
    ⟨.faddr 4, [.tmp 7], none, none⟩,
    ⟨.store 1, [.tmp 8, .tmp 5], none, none⟩]))))))))))
    (.seq
    (.draw [0, 1, 2, 3, 4, 5, 6, 7, 8, 9, 10] 0 [
    ⟨.mov, [.loc 0], none, none⟩,
    ⟨.mov, [.loc 0], none, none⟩,
    ⟨.nilc, [.tmp 1], none, none⟩,
    ⟨.faddr 6, [.tmp 2], none, none⟩,
    ⟨.load none, [.tmp 3], none, none⟩,
    ⟨.load (some 4), [.loc 3], none, none⟩,
    ⟨.lit 1 4 [.int .i64 0, .int .i64 0, .int .u64 0, .int .u64 0] [(0, 4)], [.tmp 5], none, none⟩,
    ⟨.append 4 32, [.tmp 4, .tmp 6], none, none⟩,
    ⟨.nilc, [.tmp 0], none, none⟩,
    ⟨.faddr 6, [.tmp 8], none, none⟩,
    ⟨.store 1, [.tmp 9, .tmp 7], none, none⟩] [(4, [7])])
    (.seq
    (.region [
    ⟨.mov, [.loc 0], none, none⟩,
    ⟨.nilc, [.tmp 0], none, none⟩,
    ⟨.faddr 6, [.tmp 1], none, none⟩,
    ⟨.load none, [.tmp 2], none, none⟩,
    ⟨.len, [.tmp 3], none, none⟩,
    ⟨.bin .gtr, [.tmp 4, .c (.int .i64 256)], some 8, none⟩])
    (.cond (.loc 8)
      (.region [
    ⟨.mov, [.loc 0], none, none⟩,
    ⟨.mov, [.loc 0], none, none⟩,
    ⟨.nilc, [.tmp 1], none, none⟩,
    ⟨.faddr 6, [.tmp 2], none, none⟩,
    ⟨.load none, [.tmp 3], none, none⟩,
    ⟨.slice 4 true false false, [.tmp 4, .c (.int .i64 1)], none, none⟩,
    ⟨.nilc, [.tmp 0], none, none⟩,
    ⟨.faddr 6, [.tmp 6], none, none⟩,
    ⟨.store 1, [.tmp 7, .tmp 5], none, none⟩])
      .skip)))))) }
def ref06_there : AFn := { nloc := 4, npar := 2, res := [.loc 3], body :=
    (.seq
    (.region [
    ⟨.box, [.loc 0], some 2, none⟩,
    ⟨.mov, [.c (.bool false)], some 3, none⟩])
    (.seq
    (.region [
    ⟨.mov, [.loc 1], none, none⟩,
    ⟨.bin .geq, [.tmp 0, .c (.int .i64 0)], none, none⟩,
    ⟨.mov, [.tmp 1], none, none⟩,
    ⟨.mov, [.loc 1], none, some (2, true)⟩,
    ⟨.faddr 0, [.loc 2], none, some (2, true)⟩,
    ⟨.load none, [.tmp 4], none, some (2, true)⟩,
    ⟨.len, [.tmp 5], none, some (2, true)⟩,
    ⟨.bin .lss, [.tmp 3, .tmp 6], none, some (2, true)⟩,
    ⟨.pick, [.tmp 2, .tmp 7, .c (.bool false)], none, none⟩,
    ⟨.mov, [.tmp 8], some 3, none⟩])
    .ret)) }
def ref06_with : AFn := { nloc := 6, npar := 3, res := [.cell 4 (some 2)], body :=
    (.seq
    (.region [
    ⟨.box, [.loc 0], some 3, none⟩,
    ⟨.alloc [.nils, .int .u64 0], [], some 4, none⟩])
    (.seq
    (.region [
    ⟨.mov, [.c (.nils)], some 5, none⟩])
    (.seq
    (.region [
    ⟨.mov, [.loc 5], none, none⟩,
    ⟨.faddr 0, [.loc 3], none, none⟩,
    ⟨.load none, [.tmp 1], none, none⟩,
    ⟨.append 1 8, [.tmp 0, .tmp 2], none, none⟩,
    ⟨.mov, [.tmp 3], some 5, none⟩])
    (.seq
    (.region [
    ⟨.mov, [.loc 5], none, none⟩,
    ⟨.mov, [.loc 1], none, none⟩,
    ⟨.mov, [.loc 2], none, none⟩,
    ⟨.iaddr 1 none, [.tmp 0, .tmp 1], none, none⟩,
    ⟨.store 1, [.tmp 3, .tmp 2], none, none⟩])
    (.seq
    (.region [
    ⟨.mov, [.loc 5], none, none⟩,
    ⟨.faddr 1, [.loc 3], none, none⟩,
    ⟨.load none, [.tmp 1], none, none⟩,
    ⟨.bin .add, [.tmp 2, .c (.int .u64 1)], none, none⟩,
    ⟨.build [.nils, .int .u64 0] [(0, 1), (1, 1)], [.tmp 0, .tmp 3], none, none⟩,
    ⟨.store 2, [.loc 4, .tmp 4], none, none⟩])
    .ret))))) }
end Go.Am.F06
end
section
namespace Go.Am.F06
variable {X : Type}
def c_cell_New : AFun X := amFunc [] cell_New
def c_cell_Mem_there : AFun X := amFunc [] cell_Mem_there
def c_cell_counts_note : AFun X := amFunc [] cell_counts_note
def c_cell_Mem_Store_1 : AFun X := amFunc [] cell_Mem_Store_1
def c_cell_Mem_CAS_1 : AFun X := amFunc [] cell_Mem_CAS_1
def c_cell_Mem_Load_1 : AFun X := amFunc [] cell_Mem_Load_1
def c_cell_Mem_Add_1 : AFun X := amFunc [] cell_Mem_Add_1
def c_cell_Mem_access : AFun X := amFunc [(56, c_cell_Mem_there), (71, c_cell_counts_note), (49, c_cell_Mem_Store_1), (51, c_cell_Mem_CAS_1), (52, c_cell_Mem_Load_1), (70, c_cell_Mem_Add_1)] cell_Mem_access
def c_cell_Mem_Store : AFun X := amFunc [(50, c_cell_Mem_access), (49, c_cell_Mem_Store_1)] cell_Mem_Store
def c_cell_Mem_CAS : AFun X := amFunc [(50, c_cell_Mem_access), (51, c_cell_Mem_CAS_1)] cell_Mem_CAS
def c_cell_Mem_Load : AFun X := amFunc [(50, c_cell_Mem_access), (52, c_cell_Mem_Load_1)] cell_Mem_Load
def c_cell_Mem_Ops : AFun X := amFunc [] cell_Mem_Ops
def c_cell_Mem_Len : AFun X := amFunc [] cell_Mem_Len
def c_slices_Clone_uint64 : AFun X := amFunc [] slices_Clone_uint64
def c_cell_Mem_All : AFun X := amFunc [(61, c_slices_Clone_uint64)] cell_Mem_All
def c_docs_SameCells : AFun X := amFunc [] docs_SameCells
def c_ref06_New : AFun X := amFunc [] ref06_New
def c_ref06_there : AFun X := amFunc [] ref06_there
def c_ref06_Load : AFun X := amFunc [(72, c_ref06_there)] ref06_Load
def c_ref06_with : AFun X := amFunc [] ref06_with
def c_ref06_Store : AFun X := amFunc [(72, c_ref06_there), (73, c_ref06_with)] ref06_Store
def c_ref06_CAS : AFun X := amFunc [(72, c_ref06_there), (73, c_ref06_with)] ref06_CAS
end Go.Am.F06
end
