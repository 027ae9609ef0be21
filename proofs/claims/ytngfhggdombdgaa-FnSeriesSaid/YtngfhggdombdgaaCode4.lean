/- The code of the Go functions in the generator's own form, printed by a program of mine (gen.py) out of the loaded program; each with the check that it is so. -/
import Derived.Test.YtngfhggdombdgaaVcFn
import Derived.Test.YtngfhggdombdgaaGeo
import Derived.Test.YtngfhggdombdgaaRows
import Derived.KernelRfl
namespace Go.Proofs.Ytngfhggdombdgaa
open Go Go.Fl Go.Vc
set_option linter.all false
set_option maxRecDepth 100000

/- spec.l03Image -/
def c_spec_l03Image : FV := ⟨37, [.cell 6 (some 3), .tmp 7],
  .seq (.ops [⟨.box 39 (.tmp 0), some 3, none⟩,
    ⟨.alloc 39 (.agg (#[.int .i8 0, .int .i8 0, .float .f32 0])), some 6, none⟩,
    ⟨.mov (.const (.int .i64 0)), some 7, none⟩])
  (.seq (.ops [⟨.mov (.tmp 1), some 10, none⟩,
    ⟨.addr (.tmp 3) 0, some 11, none⟩,
    ⟨.load none (.tmp 11), some 12, none⟩,
    ⟨.convI .i64 (.tmp 12), some 13, none⟩,
    ⟨.bin .sub (.tmp 10) (.tmp 13), some 14, none⟩,
    ⟨.mov (.tmp 14), some 8, none⟩])
  (.seq (.seq (.ops [⟨.mov (.tmp 1), some 15, none⟩,
    ⟨.call 75 [.tmp 15, .const (.int .i64 (-400)), .const (.int .i64 400)], some 16, none⟩,
    ⟨.un .not (.tmp 16), some 17, none⟩,
    ⟨.mov (.tmp 17), some 18, none⟩,
    ⟨.mov (.tmp 8), some 19, some (18, false)⟩,
    ⟨.call 106 [.tmp 19], some 20, some (18, false)⟩,
    ⟨.un .not (.tmp 20), some 21, some (18, false)⟩,
    ⟨.pick (.tmp 18) (.const (.bool true)) (.tmp 21), some 22, none⟩])
  (.cond (.tmp 22) (.seq (.ops [⟨.build [(0, 1), (1, 1), (2, 1)] (#[.int .i8 0, .int .i8 0, .float .f32 0]) [], some 23, none⟩,
    ⟨.store 3 (.tmp 6) (.tmp 23), none, none⟩,
    ⟨.mov (.const (.int .i64 2)), some 7, none⟩])
  (.ret)) (.skip)))
  (.seq (.ops [⟨.mov (.tmp 8), some 24, none⟩,
    ⟨.convI .i8 (.tmp 24), some 25, none⟩,
    ⟨.addr (.tmp 3) 1, some 26, none⟩,
    ⟨.load none (.tmp 26), some 27, none⟩,
    ⟨.addr (.tmp 3) 2, some 28, none⟩,
    ⟨.load none (.tmp 28), some 29, none⟩,
    ⟨.build [(0, 1), (1, 1), (2, 1)] (#[.int .i8 0, .int .i8 0, .float .f32 0]) [(0, .tmp 25), (1, .tmp 27), (2, .tmp 29)], some 30, none⟩,
    ⟨.alloc 39 (.agg (#[.int .i8 0, .int .i8 0, .float .f32 0])), some 9, none⟩,
    ⟨.store 3 (.tmp 9) (.tmp 30), none, none⟩])
  (.seq (.seq (.ops [⟨.mov (.tmp 2), some 31, none⟩])
  (.cond (.tmp 31) (.ops [⟨.addr (.tmp 3) 2, some 32, none⟩,
    ⟨.load none (.tmp 32), some 33, none⟩,
    ⟨.un .neg (.tmp 33), some 34, none⟩,
    ⟨.addr (.tmp 9) 2, some 35, none⟩,
    ⟨.store 1 (.tmp 35) (.tmp 34), none, none⟩]) (.skip)))
  (.seq (.ops [⟨.load (some 3) (.tmp 9), some 36, none⟩,
    ⟨.store 3 (.tmp 6) (.tmp 36), none, none⟩,
    ⟨.mov (.const (.int .i64 0)), some 7, none⟩])
  (.ret))))))⟩
theorem ok_spec_l03Image : cmpF Try.prog Try.f76 = some c_spec_l03Image := by kernel_rfl

/- impl.ValidWell -/
def c_impl_ValidWell : FV := ⟨18, [.tmp 2],
  .seq (.ops [⟨.box 39 (.tmp 0), some 1, none⟩,
    ⟨.mov (.const (.bool false)), some 2, none⟩])
  (.seq (.ops [⟨.addr (.tmp 1) 0, some 3, none⟩,
    ⟨.load none (.tmp 3), some 4, none⟩,
    ⟨.convI .i64 (.tmp 4), some 5, none⟩,
    ⟨.call 79 [.tmp 5], some 6, none⟩,
    ⟨.mov (.tmp 6), some 7, none⟩,
    ⟨.addr (.tmp 1) 1, some 8, some (7, true)⟩,
    ⟨.load none (.tmp 8), some 9, some (7, true)⟩,
    ⟨.convI .i64 (.tmp 9), some 10, some (7, true)⟩,
    ⟨.call 79 [.tmp 10], some 11, some (7, true)⟩,
    ⟨.pick (.tmp 7) (.tmp 11) (.const (.bool false)), some 12, none⟩,
    ⟨.mov (.tmp 12), some 13, none⟩,
    ⟨.addr (.tmp 1) 2, some 14, some (13, true)⟩,
    ⟨.load none (.tmp 14), some 15, some (13, true)⟩,
    ⟨.call 108 [.tmp 15], some 16, some (13, true)⟩,
    ⟨.pick (.tmp 13) (.tmp 16) (.const (.bool false)), some 17, none⟩,
    ⟨.mov (.tmp 17), some 2, none⟩])
  (.ret))⟩
theorem ok_impl_ValidWell : cmpF Try.prog Try.f77 = some c_impl_ValidWell := by kernel_rfl

/- impl.in -/
def c_impl_in : FV := ⟨15, [.tmp 6],
  .seq (.ops [⟨.mov (.const (.bool false)), some 6, none⟩])
  (.seq (.ops [⟨.mov (.tmp 0), some 7, none⟩,
    ⟨.mov (.tmp 1), some 8, none⟩,
    ⟨.bin .geq (.tmp 7) (.tmp 8), some 9, none⟩,
    ⟨.mov (.tmp 9), some 10, none⟩,
    ⟨.mov (.tmp 0), some 11, some (10, true)⟩,
    ⟨.mov (.tmp 2), some 12, some (10, true)⟩,
    ⟨.bin .leq (.tmp 11) (.tmp 12), some 13, some (10, true)⟩,
    ⟨.pick (.tmp 10) (.tmp 13) (.const (.bool false)), some 14, none⟩,
    ⟨.mov (.tmp 14), some 6, none⟩])
  (.ret))⟩
theorem ok_impl_in : cmpF Try.prog Try.f78 = some c_impl_in := by kernel_rfl

/- impl.isPlace -/
def c_impl_isPlace : FV := ⟨5, [.tmp 2],
  .seq (.ops [⟨.mov (.const (.bool false)), some 2, none⟩])
  (.seq (.ops [⟨.mov (.tmp 0), some 3, none⟩,
    ⟨.call 78 [.tmp 3, .const (.int .i64 (-100)), .const (.int .i64 100)], some 4, none⟩,
    ⟨.mov (.tmp 4), some 2, none⟩])
  (.ret))⟩
theorem ok_impl_isPlace : cmpF Try.prog Try.f79 = some c_impl_isPlace := by kernel_rfl

/- spec.l04Ok -/
def c_spec_l04Ok : FV := ⟨28, [.tmp 2],
  .seq (.ops [⟨.mov (.const (.bool false)), some 2, none⟩])
  (.seq (.seq (.ops [⟨.mov (.tmp 0), some 5, none⟩,
    ⟨.lenL (.tmp 5), some 6, none⟩,
    ⟨.bin .gtr (.tmp 6) (.const (.int .i64 40)), some 7, none⟩])
  (.cond (.tmp 7) (.seq (.ops [⟨.mov (.const (.bool false)), some 2, none⟩])
  (.ret)) (.skip)))
  (.seq (.ops [⟨.mov (.const (.int .i64 0)), some 3, none⟩])
  (.seq (.seq (.ops [⟨.mov (.const (.int .i64 0)), some 4, none⟩])
  (.block 0 (.loop (.seq (.seq (.ops [⟨.mov (.tmp 4), some 8, none⟩,
    ⟨.mov (.tmp 0), some 9, none⟩,
    ⟨.lenL (.tmp 9), some 10, none⟩,
    ⟨.bin .lss (.tmp 8) (.tmp 10), some 11, none⟩])
  (.cond (.tmp 11) (.skip) (.exit 0)))
  (.seq (.block 1 (.seq (.seq (.ops [⟨.mov (.tmp 0), some 14, none⟩,
    ⟨.mov (.tmp 4), some 15, none⟩,
    ⟨.idxS 2 (.tmp 14) (.tmp 15), some 16, none⟩,
    ⟨.addr (.tmp 16) 0, some 17, none⟩,
    ⟨.load none (.tmp 17), some 18, none⟩,
    ⟨.mov (.tmp 3), some 19, none⟩,
    ⟨.bin .add (.tmp 19) (.const (.int .i64 1)), some 20, none⟩,
    ⟨.call 75 [.tmp 18, .tmp 20, .const (.int .i64 100000)], some 21, none⟩,
    ⟨.un .not (.tmp 21), some 22, none⟩])
  (.cond (.tmp 22) (.seq (.ops [⟨.mov (.const (.bool false)), some 2, none⟩])
  (.ret)) (.skip)))
  (.ops [⟨.mov (.tmp 0), some 23, none⟩,
    ⟨.mov (.tmp 4), some 24, none⟩,
    ⟨.idxS 2 (.tmp 23) (.tmp 24), some 25, none⟩,
    ⟨.addr (.tmp 25) 0, some 26, none⟩,
    ⟨.load none (.tmp 26), some 27, none⟩,
    ⟨.mov (.tmp 27), some 3, none⟩])))
  (.ops [⟨.mov (.tmp 4), some 12, none⟩,
    ⟨.bin .add (.tmp 12) (.const (.int .i64 1)), some 13, none⟩,
    ⟨.mov (.tmp 13), some 4, none⟩]))))))
  (.seq (.ops [⟨.mov (.const (.bool true)), some 2, none⟩])
  (.ret)))))⟩
theorem ok_spec_l04Ok : cmpF Try.prog Try.f80 = some c_spec_l04Ok := by kernel_rfl

/- impl.timesOk -/
def c_impl_timesOk : FV := ⟨32, [.tmp 2],
  .seq (.ops [⟨.mov (.const (.bool false)), some 2, none⟩])
  (.seq (.seq (.ops [⟨.mov (.tmp 0), some 5, none⟩,
    ⟨.lenL (.tmp 5), some 6, none⟩,
    ⟨.mov (.const (.int .i64 0)), some 7, none⟩])
  (.block 0 (.loop (.seq (.ops [⟨.bin .lss (.tmp 7) (.tmp 6), some 8, none⟩])
  (.seq (.cond (.tmp 8) (.skip) (.exit 0))
  (.seq (.block 1 (.seq (.ops [⟨.mov (.tmp 7), some 9, none⟩,
    ⟨.idxS 1 (.tmp 5) (.tmp 7), some 10, none⟩,
    ⟨.load none (.tmp 10), some 11, none⟩,
    ⟨.mov (.tmp 9), some 3, none⟩,
    ⟨.mov (.tmp 11), some 4, none⟩])
  (.seq (.ops [⟨.mov (.tmp 4), some 12, none⟩,
    ⟨.call 109 [.tmp 12], some 13, none⟩,
    ⟨.un .not (.tmp 13), some 14, none⟩,
    ⟨.mov (.tmp 14), some 15, none⟩,
    ⟨.mov (.tmp 3), some 16, some (15, false)⟩,
    ⟨.bin .gtr (.tmp 16) (.const (.int .i64 0)), some 17, some (15, false)⟩,
    ⟨.mov (.tmp 17), some 18, some (15, false)⟩,
    ⟨.mov (.tmp 0), some 19, some (18, true)⟩,
    ⟨.mov (.tmp 3), some 20, some (18, true)⟩,
    ⟨.bin .sub (.tmp 20) (.const (.int .i64 1)), some 21, some (18, true)⟩,
    ⟨.idxS 1 (.tmp 19) (.tmp 21), some 22, some (18, true)⟩,
    ⟨.load none (.tmp 22), some 23, some (18, true)⟩,
    ⟨.mov (.tmp 4), some 24, some (18, true)⟩,
    ⟨.bin .geq (.tmp 23) (.tmp 24), some 25, some (18, true)⟩,
    ⟨.pick (.tmp 18) (.tmp 25) (.const (.bool false)), some 26, some (15, false)⟩,
    ⟨.pick (.tmp 15) (.const (.bool true)) (.tmp 26), some 27, none⟩])
  (.cond (.tmp 27) (.seq (.ops [⟨.mov (.const (.bool false)), some 2, none⟩])
  (.ret)) (.skip)))))
  (.ops [⟨.bin .add (.tmp 7) (.const (.int .i64 1)), some 28, none⟩,
    ⟨.mov (.tmp 28), some 7, none⟩])))))))
  (.seq (.ops [⟨.mov (.tmp 0), some 29, none⟩,
    ⟨.lenL (.tmp 29), some 30, none⟩,
    ⟨.bin .leq (.tmp 30) (.const (.int .i64 40)), some 31, none⟩,
    ⟨.mov (.tmp 31), some 2, none⟩])
  (.ret)))⟩
theorem ok_impl_timesOk : cmpF Try.prog Try.f81 = some c_impl_timesOk := by kernel_rfl

/- slices.EqualFunc[[]impl.Well,[]impl.Well,impl.Well,impl.Well] -/
def c_slices_EqualFunc___impl_Well___impl_Well_impl_Well_impl_Well : FV := ⟨32, [.tmp 6],
  .seq (.ops [⟨.mov (.const (.bool false)), some 6, none⟩])
  (.seq (.seq (.ops [⟨.mov (.tmp 0), some 10, none⟩,
    ⟨.lenL (.tmp 10), some 11, none⟩,
    ⟨.mov (.tmp 1), some 12, none⟩,
    ⟨.lenL (.tmp 12), some 13, none⟩,
    ⟨.bin .neq (.tmp 11) (.tmp 13), some 14, none⟩])
  (.cond (.tmp 14) (.seq (.ops [⟨.mov (.const (.bool false)), some 6, none⟩])
  (.ret)) (.skip)))
  (.seq (.seq (.ops [⟨.mov (.tmp 0), some 15, none⟩,
    ⟨.lenL (.tmp 15), some 16, none⟩,
    ⟨.mov (.const (.int .i64 0)), some 17, none⟩])
  (.block 0 (.loop (.seq (.ops [⟨.bin .lss (.tmp 17) (.tmp 16), some 18, none⟩])
  (.seq (.cond (.tmp 18) (.skip) (.exit 0))
  (.seq (.block 1 (.seq (.ops [⟨.mov (.tmp 17), some 19, none⟩,
    ⟨.idxS 3 (.tmp 15) (.tmp 17), some 20, none⟩,
    ⟨.load (some 3) (.tmp 20), some 21, none⟩,
    ⟨.alloc 39 (.agg (#[.int .i8 0, .int .i8 0, .float .f32 0])), some 8, none⟩,
    ⟨.mov (.tmp 19), some 7, none⟩,
    ⟨.store 3 (.tmp 8) (.tmp 21), none, none⟩])
  (.seq (.ops [⟨.mov (.tmp 1), some 22, none⟩,
    ⟨.mov (.tmp 7), some 23, none⟩,
    ⟨.idxS 3 (.tmp 22) (.tmp 23), some 24, none⟩,
    ⟨.load (some 3) (.tmp 24), some 25, none⟩,
    ⟨.alloc 39 (.agg (#[.int .i8 0, .int .i8 0, .float .f32 0])), some 9, none⟩,
    ⟨.store 3 (.tmp 9) (.tmp 25), none, none⟩])
  (.seq (.ops [⟨.mov (.tmp 2), some 26, none⟩,
    ⟨.load (some 3) (.tmp 8), some 27, none⟩,
    ⟨.load (some 3) (.tmp 9), some 28, none⟩,
    ⟨.callv (.tmp 26) [.tmp 27, .tmp 28], some 29, none⟩,
    ⟨.un .not (.tmp 29), some 30, none⟩])
  (.cond (.tmp 30) (.seq (.ops [⟨.mov (.const (.bool false)), some 6, none⟩])
  (.ret)) (.skip))))))
  (.ops [⟨.bin .add (.tmp 17) (.const (.int .i64 1)), some 31, none⟩,
    ⟨.mov (.tmp 31), some 17, none⟩])))))))
  (.seq (.ops [⟨.mov (.const (.bool true)), some 6, none⟩])
  (.ret))))⟩
theorem ok_slices_EqualFunc___impl_Well___impl_Well_impl_Well_impl_Well : cmpF Try.prog Try.f82 = some c_slices_EqualFunc___impl_Well___impl_Well_impl_Well_impl_Well := by kernel_rfl

/- impl.SameWells$1 -/
def c_impl_SameWells_1 : FV := ⟨24, [.tmp 4],
  .seq (.ops [⟨.box 39 (.tmp 0), some 2, none⟩,
    ⟨.box 39 (.tmp 1), some 3, none⟩,
    ⟨.mov (.const (.bool false)), some 4, none⟩])
  (.seq (.ops [⟨.addr (.tmp 2) 0, some 5, none⟩,
    ⟨.load none (.tmp 5), some 6, none⟩,
    ⟨.addr (.tmp 3) 0, some 7, none⟩,
    ⟨.load none (.tmp 7), some 8, none⟩,
    ⟨.bin .eql (.tmp 6) (.tmp 8), some 9, none⟩,
    ⟨.mov (.tmp 9), some 10, none⟩,
    ⟨.addr (.tmp 2) 1, some 11, some (10, true)⟩,
    ⟨.load none (.tmp 11), some 12, some (10, true)⟩,
    ⟨.addr (.tmp 3) 1, some 13, some (10, true)⟩,
    ⟨.load none (.tmp 13), some 14, some (10, true)⟩,
    ⟨.bin .eql (.tmp 12) (.tmp 14), some 15, some (10, true)⟩,
    ⟨.pick (.tmp 10) (.tmp 15) (.const (.bool false)), some 16, none⟩,
    ⟨.mov (.tmp 16), some 17, none⟩,
    ⟨.addr (.tmp 2) 2, some 18, some (17, true)⟩,
    ⟨.load none (.tmp 18), some 19, some (17, true)⟩,
    ⟨.addr (.tmp 3) 2, some 20, some (17, true)⟩,
    ⟨.load none (.tmp 20), some 21, some (17, true)⟩,
    ⟨.call 84 [.tmp 19, .tmp 21], some 22, some (17, true)⟩,
    ⟨.pick (.tmp 17) (.tmp 22) (.const (.bool false)), some 23, none⟩,
    ⟨.mov (.tmp 23), some 4, none⟩])
  (.ret))⟩
theorem ok_impl_SameWells_1 : cmpF Try.prog Try.f83 = some c_impl_SameWells_1 := by kernel_rfl

/- impl.SameNumber -/
def c_impl_SameNumber : FV := ⟨22, [.tmp 4],
  .seq (.ops [⟨.mov (.const (.bool false)), some 4, none⟩])
  (.seq (.seq (.ops [⟨.mov (.tmp 0), some 5, none⟩,
    ⟨.call 86 [.tmp 5], some 6, none⟩,
    ⟨.mov (.tmp 6), some 7, none⟩,
    ⟨.mov (.tmp 1), some 8, some (7, false)⟩,
    ⟨.call 86 [.tmp 8], some 9, some (7, false)⟩,
    ⟨.pick (.tmp 7) (.const (.bool true)) (.tmp 9), some 10, none⟩])
  (.cond (.tmp 10) (.seq (.ops [⟨.mov (.tmp 0), some 11, none⟩,
    ⟨.call 86 [.tmp 11], some 12, none⟩,
    ⟨.mov (.tmp 12), some 13, none⟩,
    ⟨.mov (.tmp 1), some 14, some (13, true)⟩,
    ⟨.call 86 [.tmp 14], some 15, some (13, true)⟩,
    ⟨.pick (.tmp 13) (.tmp 15) (.const (.bool false)), some 16, none⟩,
    ⟨.mov (.tmp 16), some 4, none⟩])
  (.ret)) (.skip)))
  (.seq (.ops [⟨.mov (.tmp 0), some 17, none⟩,
    ⟨.f32bits (.tmp 17), some 18, none⟩,
    ⟨.mov (.tmp 1), some 19, none⟩,
    ⟨.f32bits (.tmp 19), some 20, none⟩,
    ⟨.bin .eql (.tmp 18) (.tmp 20), some 21, none⟩,
    ⟨.mov (.tmp 21), some 4, none⟩])
  (.ret)))⟩
theorem ok_impl_SameNumber : cmpF Try.prog Try.f84 = some c_impl_SameNumber := by kernel_rfl

/- spec.l04Logger -/
def c_spec_l04Logger : FV := ⟨28, [.tmp 2],
  .seq (.ops [⟨.mov (.const (.int .i16 0)), some 2, none⟩])
  (.seq (.ops [⟨.mov (.tmp 0), some 6, none⟩,
    ⟨.fbin .mul (.tmp 6) (.const (.float .f32 1098907648)), some 7, none⟩,
    ⟨.mov (.tmp 7), some 3, none⟩])
  (.seq (.block 0 (.seq (.ops [⟨.mov (.tmp 3), some 9, none⟩,
    ⟨.fbin .geq (.tmp 9) (.const (.float .f32 0)), some 10, none⟩,
    ⟨.mov (.tmp 10), some 8, none⟩])
  (.cond (.tmp 8) (.seq (.seq (.ops [⟨.mov (.tmp 3), some 11, none⟩,
    ⟨.fbin .add (.tmp 11) (.const (.float .f32 1056964608)), some 12, none⟩,
    ⟨.mov (.tmp 12), some 4, none⟩])
  (.seq (.ops [⟨.mov (.tmp 4), some 13, none⟩,
    ⟨.fbin .lss (.tmp 13) (.const (.float .f32 1191181824)), some 14, none⟩])
  (.cond (.tmp 14) (.seq (.ops [⟨.mov (.tmp 4), some 15, none⟩,
    ⟨.convI .i64 (.tmp 15), some 16, none⟩,
    ⟨.convI .i16 (.tmp 16), some 17, none⟩,
    ⟨.mov (.tmp 17), some 2, none⟩])
  (.ret)) (.skip))))
  (.seq (.ops [⟨.mov (.const (.int .i16 32767)), some 2, none⟩])
  (.ret))) (.seq (.ops [⟨.mov (.tmp 3), some 19, none⟩,
    ⟨.fbin .lss (.tmp 19) (.const (.float .f32 0)), some 20, none⟩,
    ⟨.mov (.tmp 20), some 18, none⟩])
  (.cond (.tmp 18) (.seq (.seq (.ops [⟨.mov (.tmp 3), some 21, none⟩,
    ⟨.fbin .sub (.tmp 21) (.const (.float .f32 1056964608)), some 22, none⟩,
    ⟨.mov (.tmp 22), some 5, none⟩])
  (.seq (.ops [⟨.mov (.tmp 5), some 23, none⟩,
    ⟨.fbin .gtr (.tmp 23) (.const (.float .f32 3338665984)), some 24, none⟩])
  (.cond (.tmp 24) (.seq (.ops [⟨.mov (.tmp 5), some 25, none⟩,
    ⟨.convI .i64 (.tmp 25), some 26, none⟩,
    ⟨.convI .i16 (.tmp 26), some 27, none⟩,
    ⟨.mov (.tmp 27), some 2, none⟩])
  (.ret)) (.skip))))
  (.seq (.ops [⟨.mov (.const (.int .i16 (-32768))), some 2, none⟩])
  (.ret))) (.skip))))))
  (.seq (.ops [⟨.mov (.const (.int .i16 0)), some 2, none⟩])
  (.ret))))⟩
theorem ok_spec_l04Logger : cmpF Try.prog Try.f85 = some c_spec_l04Logger := by kernel_rfl

/- impl.isNaN -/
def c_impl_isNaN : FV := ⟨6, [.tmp 2],
  .seq (.ops [⟨.mov (.const (.bool false)), some 2, none⟩])
  (.seq (.ops [⟨.mov (.tmp 0), some 3, none⟩,
    ⟨.mov (.tmp 0), some 4, none⟩,
    ⟨.fbin .neq (.tmp 3) (.tmp 4), some 5, none⟩,
    ⟨.mov (.tmp 5), some 2, none⟩])
  (.ret))⟩
theorem ok_impl_isNaN : cmpF Try.prog Try.f86 = some c_impl_isNaN := by kernel_rfl

/- math.Floor -/
def c_math_Floor : FV := ⟨7, [.tmp 2],
  .seq (.ops [⟨.mov (.const (.float .f64 0)), some 2, none⟩])
  (.seq (.cond (.const (.bool true)) (.seq (.ops [⟨.mov (.tmp 0), some 3, none⟩,
    ⟨.integ .down (.tmp 3), some 4, none⟩,
    ⟨.mov (.tmp 4), some 2, none⟩])
  (.ret)) (.skip))
  (.seq (.ops [⟨.mov (.tmp 0), some 5, none⟩,
    ⟨.call 111 [.tmp 5], some 6, none⟩,
    ⟨.mov (.tmp 6), some 2, none⟩])
  (.ret)))⟩
theorem ok_math_Floor : cmpF Try.prog Try.f87 = some c_math_Floor := by kernel_rfl

/- math.Ceil -/
def c_math_Ceil : FV := ⟨7, [.tmp 2],
  .seq (.ops [⟨.mov (.const (.float .f64 0)), some 2, none⟩])
  (.seq (.cond (.const (.bool true)) (.seq (.ops [⟨.mov (.tmp 0), some 3, none⟩,
    ⟨.integ .up (.tmp 3), some 4, none⟩,
    ⟨.mov (.tmp 4), some 2, none⟩])
  (.ret)) (.skip))
  (.seq (.ops [⟨.mov (.tmp 0), some 5, none⟩,
    ⟨.call 113 [.tmp 5], some 6, none⟩,
    ⟨.mov (.tmp 6), some 2, none⟩])
  (.ret)))⟩
theorem ok_math_Ceil : cmpF Try.prog Try.f88 = some c_math_Ceil := by kernel_rfl

/- spec.l03Asked -/
def c_spec_l03Asked : FV := ⟨47, [.tmp 10],
  .seq (.ops [⟨.box 70 (.tmp 0), some 5, none⟩,
    ⟨.mov (.const (.int .i64 0)), some 10, none⟩])
  (.seq (.ops [⟨.load (some 2) (.tmp 5), some 13, none⟩,
    ⟨.call 114 [.tmp 13], some 14, none⟩,
    ⟨.mov (.tmp 14), some 11, none⟩])
  (.seq (.seq (.ops [⟨.mov (.const (.int .i64 0)), some 12, none⟩])
  (.block 0 (.loop (.seq (.seq (.ops [⟨.mov (.tmp 12), some 15, none⟩,
    ⟨.mov (.tmp 1), some 16, none⟩,
    ⟨.lenL (.tmp 16), some 17, none⟩,
    ⟨.bin .lss (.tmp 15) (.tmp 17), some 18, none⟩,
    ⟨.mov (.tmp 18), some 19, none⟩,
    ⟨.mov (.tmp 11), some 20, some (19, true)⟩,
    ⟨.pick (.tmp 19) (.tmp 20) (.const (.bool false)), some 21, none⟩])
  (.cond (.tmp 21) (.skip) (.exit 0)))
  (.seq (.block 1 (.ops [⟨.mov (.tmp 1), some 24, none⟩,
    ⟨.mov (.tmp 12), some 25, none⟩,
    ⟨.idxS 3 (.tmp 24) (.tmp 25), some 26, none⟩,
    ⟨.load (some 3) (.tmp 26), some 27, none⟩,
    ⟨.call 74 [.tmp 27], some 28, none⟩,
    ⟨.mov (.tmp 28), some 11, none⟩]))
  (.ops [⟨.mov (.tmp 12), some 22, none⟩,
    ⟨.bin .add (.tmp 22) (.const (.int .i64 1)), some 23, none⟩,
    ⟨.mov (.tmp 23), some 12, none⟩]))))))
  (.seq (.seq (.ops [⟨.mov (.tmp 11), some 29, none⟩,
    ⟨.un .not (.tmp 29), some 30, none⟩])
  (.cond (.tmp 30) (.seq (.ops [⟨.mov (.const (.int .i64 1)), some 10, none⟩])
  (.ret)) (.skip)))
  (.seq (.seq (.ops [⟨.mov (.tmp 1), some 31, none⟩,
    ⟨.lenL (.tmp 31), some 32, none⟩,
    ⟨.bin .gtr (.tmp 32) (.const (.int .i64 12)), some 33, none⟩])
  (.cond (.tmp 33) (.seq (.ops [⟨.mov (.const (.int .i64 3)), some 10, none⟩])
  (.ret)) (.skip)))
  (.seq (.seq (.ops [⟨.mov (.tmp 2), some 34, none⟩,
    ⟨.call 106 [.tmp 34], some 35, none⟩,
    ⟨.un .not (.tmp 35), some 36, none⟩,
    ⟨.mov (.tmp 36), some 37, none⟩,
    ⟨.mov (.tmp 3), some 38, some (37, false)⟩,
    ⟨.call 106 [.tmp 38], some 39, some (37, false)⟩,
    ⟨.un .not (.tmp 39), some 40, some (37, false)⟩,
    ⟨.pick (.tmp 37) (.const (.bool true)) (.tmp 40), some 41, none⟩,
    ⟨.mov (.tmp 41), some 42, none⟩,
    ⟨.mov (.tmp 4), some 43, some (42, false)⟩,
    ⟨.call 115 [.tmp 43], some 44, some (42, false)⟩,
    ⟨.un .not (.tmp 44), some 45, some (42, false)⟩,
    ⟨.pick (.tmp 42) (.const (.bool true)) (.tmp 45), some 46, none⟩])
  (.cond (.tmp 46) (.seq (.ops [⟨.mov (.const (.int .i64 2)), some 10, none⟩])
  (.ret)) (.skip)))
  (.seq (.ops [⟨.mov (.const (.int .i64 0)), some 10, none⟩])
  (.ret)))))))⟩
theorem ok_spec_l03Asked : cmpF Try.prog Try.f89 = some c_spec_l03Asked := by kernel_rfl

/- spec.l03Argument -/
def c_spec_l03Argument : FV := ⟨56, [.tmp 10],
  .seq (.ops [⟨.box 70 (.tmp 0), some 5, none⟩,
    ⟨.box 39 (.tmp 1), some 6, none⟩,
    ⟨.mov (.const (.float .f32 0)), some 10, none⟩])
  (.seq (.ops [⟨.mov (.tmp 2), some 16, none⟩,
    ⟨.addr (.tmp 6) 0, some 17, none⟩,
    ⟨.load none (.tmp 17), some 18, none⟩,
    ⟨.convI .i64 (.tmp 18), some 19, none⟩,
    ⟨.bin .sub (.tmp 16) (.tmp 19), some 20, none⟩,
    ⟨.mov (.tmp 20), some 11, none⟩])
  (.seq (.ops [⟨.mov (.tmp 3), some 21, none⟩,
    ⟨.addr (.tmp 6) 1, some 22, none⟩,
    ⟨.load none (.tmp 22), some 23, none⟩,
    ⟨.convI .i64 (.tmp 23), some 24, none⟩,
    ⟨.bin .sub (.tmp 21) (.tmp 24), some 25, none⟩,
    ⟨.mov (.tmp 25), some 12, none⟩])
  (.seq (.ops [⟨.mov (.tmp 11), some 26, none⟩,
    ⟨.mov (.tmp 11), some 27, none⟩,
    ⟨.bin .mul (.tmp 26) (.tmp 27), some 28, none⟩,
    ⟨.mov (.tmp 12), some 29, none⟩,
    ⟨.mov (.tmp 12), some 30, none⟩,
    ⟨.bin .mul (.tmp 29) (.tmp 30), some 31, none⟩,
    ⟨.bin .add (.tmp 28) (.tmp 31), some 32, none⟩,
    ⟨.convF .f32 (.tmp 32), some 33, none⟩,
    ⟨.mov (.tmp 33), some 13, none⟩])
  (.seq (.seq (.ops [⟨.mov (.tmp 11), some 34, none⟩,
    ⟨.bin .eql (.tmp 34) (.const (.int .i64 0)), some 35, none⟩,
    ⟨.mov (.tmp 35), some 36, none⟩,
    ⟨.mov (.tmp 12), some 37, some (36, true)⟩,
    ⟨.bin .eql (.tmp 37) (.const (.int .i64 0)), some 38, some (36, true)⟩,
    ⟨.pick (.tmp 36) (.tmp 38) (.const (.bool false)), some 39, none⟩])
  (.cond (.tmp 39) (.ops [⟨.mov (.const (.float .f32 1031798784)), some 13, none⟩]) (.skip)))
  (.seq (.ops [⟨.addr (.tmp 5) 0, some 40, none⟩,
    ⟨.load none (.tmp 40), some 41, none⟩,
    ⟨.fbin .mul (.const (.float .f32 1082130432)) (.tmp 41), some 42, none⟩,
    ⟨.mov (.tmp 42), some 14, none⟩])
  (.seq (.ops [⟨.mov (.tmp 14), some 43, none⟩,
    ⟨.mov (.tmp 4), some 44, none⟩,
    ⟨.convF .f32 (.tmp 44), some 45, none⟩,
    ⟨.fbin .mul (.tmp 43) (.tmp 45), some 46, none⟩,
    ⟨.mov (.tmp 46), some 14, none⟩])
  (.seq (.ops [⟨.mov (.tmp 13), some 47, none⟩,
    ⟨.addr (.tmp 5) 1, some 48, none⟩,
    ⟨.load none (.tmp 48), some 49, none⟩,
    ⟨.fbin .mul (.tmp 47) (.tmp 49), some 50, none⟩,
    ⟨.mov (.tmp 14), some 51, none⟩,
    ⟨.fbin .quo (.tmp 50) (.tmp 51), some 52, none⟩,
    ⟨.mov (.tmp 52), some 15, none⟩])
  (.seq (.seq (.ops [⟨.mov (.tmp 15), some 53, none⟩,
    ⟨.fbin .lss (.tmp 53) (.const (.float .f32 562036736)), some 54, none⟩])
  (.cond (.tmp 54) (.seq (.ops [⟨.mov (.const (.float .f32 562036736)), some 10, none⟩])
  (.ret)) (.skip)))
  (.seq (.ops [⟨.mov (.tmp 15), some 55, none⟩,
    ⟨.mov (.tmp 55), some 10, none⟩])
  (.ret))))))))))⟩
theorem ok_spec_l03Argument : cmpF Try.prog Try.f90 = some c_spec_l03Argument := by kernel_rfl

/- impl.momentsFault -/
def c_impl_momentsFault : FV := ⟨36, [.tmp 10],
  .seq (.ops [⟨.box 70 (.tmp 0), some 5, none⟩,
    ⟨.mov (.const (.int .i64 0)), some 10, none⟩])
  (.seq (.block 0 (.seq (.ops [⟨.load (some 2) (.tmp 5), some 12, none⟩,
    ⟨.call 116 [.tmp 12], some 13, none⟩,
    ⟨.un .not (.tmp 13), some 14, none⟩,
    ⟨.mov (.tmp 14), some 15, none⟩,
    ⟨.mov (.tmp 1), some 16, some (15, false)⟩,
    ⟨.call 93 [.tmp 16, .func 94], some 17, some (15, false)⟩,
    ⟨.pick (.tmp 15) (.const (.bool true)) (.tmp 17), some 18, none⟩,
    ⟨.mov (.tmp 18), some 11, none⟩])
  (.cond (.tmp 11) (.seq (.ops [⟨.mov (.const (.int .i64 1)), some 10, none⟩])
  (.ret)) (.seq (.ops [⟨.mov (.tmp 1), some 20, none⟩,
    ⟨.lenL (.tmp 20), some 21, none⟩,
    ⟨.bin .gtr (.tmp 21) (.const (.int .i64 12)), some 22, none⟩,
    ⟨.mov (.tmp 22), some 19, none⟩])
  (.cond (.tmp 19) (.seq (.ops [⟨.mov (.const (.int .i64 3)), some 10, none⟩])
  (.ret)) (.seq (.ops [⟨.mov (.tmp 2), some 24, none⟩,
    ⟨.call 79 [.tmp 24], some 25, none⟩,
    ⟨.un .not (.tmp 25), some 26, none⟩,
    ⟨.mov (.tmp 26), some 27, none⟩,
    ⟨.mov (.tmp 3), some 28, some (27, false)⟩,
    ⟨.call 79 [.tmp 28], some 29, some (27, false)⟩,
    ⟨.un .not (.tmp 29), some 30, some (27, false)⟩,
    ⟨.pick (.tmp 27) (.const (.bool true)) (.tmp 30), some 31, none⟩,
    ⟨.mov (.tmp 31), some 32, none⟩,
    ⟨.mov (.tmp 4), some 33, some (32, false)⟩,
    ⟨.call 117 [.tmp 33, .func 118], some 34, some (32, false)⟩,
    ⟨.pick (.tmp 32) (.const (.bool true)) (.tmp 34), some 35, none⟩,
    ⟨.mov (.tmp 35), some 23, none⟩])
  (.cond (.tmp 23) (.seq (.ops [⟨.mov (.const (.int .i64 2)), some 10, none⟩])
  (.ret)) (.skip))))))))
  (.seq (.ops [⟨.mov (.const (.int .i64 0)), some 10, none⟩])
  (.ret)))⟩
theorem ok_impl_momentsFault : cmpF Try.prog Try.f91 = some c_impl_momentsFault := by kernel_rfl

/- impl.argument -/
def c_impl_argument : FV := ⟨49, [.tmp 10],
  .seq (.ops [⟨.box 70 (.tmp 0), some 5, none⟩,
    ⟨.box 39 (.tmp 1), some 6, none⟩,
    ⟨.mov (.const (.float .f32 0)), some 10, none⟩])
  (.seq (.dops [⟨.mov (.tmp 2), some 15, none⟩,
    ⟨.addr (.tmp 6) 0, some 16, none⟩,
    ⟨.load none (.tmp 16), some 17, none⟩,
    ⟨.convI .i64 (.tmp 17), some 18, none⟩,
    ⟨.bin .sub (.tmp 15) (.tmp 18), some 19, none⟩,
    ⟨.convF .f32 (.tmp 19), some 20, none⟩,
    ⟨.mov (.tmp 3), some 21, none⟩,
    ⟨.addr (.tmp 6) 1, some 22, none⟩,
    ⟨.load none (.tmp 22), some 23, none⟩,
    ⟨.convI .i64 (.tmp 23), some 24, none⟩,
    ⟨.bin .sub (.tmp 21) (.tmp 24), some 25, none⟩,
    ⟨.convF .f32 (.tmp 25), some 26, none⟩,
    ⟨.mov (.tmp 20), some 11, none⟩,
    ⟨.mov (.tmp 26), some 12, none⟩])
  (.seq (.ops [⟨.mov (.tmp 11), some 27, none⟩,
    ⟨.mov (.tmp 11), some 28, none⟩,
    ⟨.fbin .mul (.tmp 27) (.tmp 28), some 29, none⟩,
    ⟨.mov (.tmp 12), some 30, none⟩,
    ⟨.mov (.tmp 12), some 31, none⟩,
    ⟨.fbin .mul (.tmp 30) (.tmp 31), some 32, none⟩,
    ⟨.fbin .add (.tmp 29) (.tmp 32), some 33, none⟩,
    ⟨.mov (.tmp 33), some 13, none⟩])
  (.seq (.seq (.ops [⟨.mov (.tmp 13), some 34, none⟩,
    ⟨.fbin .eql (.tmp 34) (.const (.float .f32 0)), some 35, none⟩])
  (.cond (.tmp 35) (.ops [⟨.mov (.const (.float .f32 1031798784)), some 13, none⟩]) (.skip)))
  (.seq (.ops [⟨.mov (.tmp 13), some 36, none⟩,
    ⟨.addr (.tmp 5) 1, some 37, none⟩,
    ⟨.load none (.tmp 37), some 38, none⟩,
    ⟨.fbin .mul (.tmp 36) (.tmp 38), some 39, none⟩,
    ⟨.addr (.tmp 5) 0, some 40, none⟩,
    ⟨.load none (.tmp 40), some 41, none⟩,
    ⟨.fbin .mul (.const (.float .f32 1082130432)) (.tmp 41), some 42, none⟩,
    ⟨.mov (.tmp 4), some 43, none⟩,
    ⟨.convF .f32 (.tmp 43), some 44, none⟩,
    ⟨.fbin .mul (.tmp 42) (.tmp 44), some 45, none⟩,
    ⟨.fbin .quo (.tmp 39) (.tmp 45), some 46, none⟩,
    ⟨.mov (.tmp 46), some 14, none⟩])
  (.seq (.ops [⟨.mov (.tmp 14), some 47, none⟩,
    ⟨.fmax (.tmp 47) (.const (.float .f32 562036736)), some 48, none⟩,
    ⟨.mov (.tmp 48), some 10, none⟩])
  (.ret))))))⟩
theorem ok_impl_argument : cmpF Try.prog Try.f92 = some c_impl_argument := by kernel_rfl

/- slices.ContainsFunc[[]impl.Well,impl.Well] -/
def c_slices_ContainsFunc___impl_Well_impl_Well : FV := ⟨9, [.tmp 4],
  .seq (.ops [⟨.mov (.const (.bool false)), some 4, none⟩])
  (.seq (.ops [⟨.mov (.tmp 0), some 5, none⟩,
    ⟨.mov (.tmp 1), some 6, none⟩,
    ⟨.call 119 [.tmp 5, .tmp 6], some 7, none⟩,
    ⟨.bin .geq (.tmp 7) (.const (.int .i64 0)), some 8, none⟩,
    ⟨.mov (.tmp 8), some 4, none⟩])
  (.ret))⟩
theorem ok_slices_ContainsFunc___impl_Well_impl_Well : cmpF Try.prog Try.f93 = some c_slices_ContainsFunc___impl_Well_impl_Well := by kernel_rfl

/- impl.badWell -/
def c_impl_badWell : FV := ⟨6, [.tmp 2],
  .seq (.ops [⟨.box 39 (.tmp 0), some 1, none⟩,
    ⟨.mov (.const (.bool false)), some 2, none⟩])
  (.seq (.ops [⟨.load (some 3) (.tmp 1), some 3, none⟩,
    ⟨.call 77 [.tmp 3], some 4, none⟩,
    ⟨.un .not (.tmp 4), some 5, none⟩,
    ⟨.mov (.tmp 5), some 2, none⟩])
  (.ret))⟩
theorem ok_impl_badWell : cmpF Try.prog Try.f94 = some c_impl_badWell := by kernel_rfl

/- slices.Clone[[]impl.Well,impl.Well] -/
def c_slices_Clone___impl_Well_impl_Well : FV := ⟨8, [.tmp 2],
  .seq (.ops [⟨.mov (.const (.slice none 0 0)), some 2, none⟩])
  (.seq (.seq (.ops [⟨.mov (.tmp 0), some 3, none⟩,
    ⟨.snil (.tmp 3), some 4, none⟩])
  (.cond (.tmp 4) (.seq (.ops [⟨.mov (.const (.slice none 0 0)), some 2, none⟩])
  (.ret)) (.skip)))
  (.seq (.ops [⟨.bslice 39 3 0 (#[.int .i8 0, .int .i8 0, .float .f32 0]) [], some 5, none⟩,
    ⟨.mov (.tmp 0), some 6, none⟩,
    ⟨.app 39 3 (.tmp 5) (.tmp 6), some 7, none⟩,
    ⟨.mov (.tmp 7), some 2, none⟩])
  (.ret)))⟩
theorem ok_slices_Clone___impl_Well_impl_Well : cmpF Try.prog Try.f95 = some c_slices_Clone___impl_Well_impl_Well := by kernel_rfl

/- spec.l04Level -/
def c_spec_l04Level : FV := ⟨7, [.tmp 2],
  .seq (.ops [⟨.box 87 (.tmp 0), some 1, none⟩,
    ⟨.mov (.const (.float .f32 0)), some 2, none⟩])
  (.seq (.ops [⟨.addr (.tmp 1) 1, some 3, none⟩,
    ⟨.load none (.tmp 3), some 4, none⟩,
    ⟨.convF .f32 (.tmp 4), some 5, none⟩,
    ⟨.fbin .quo (.tmp 5) (.const (.float .f32 1098907648)), some 6, none⟩,
    ⟨.mov (.tmp 6), some 2, none⟩])
  (.ret))⟩
theorem ok_spec_l04Level : cmpF Try.prog Try.f96 = some c_spec_l04Level := by kernel_rfl

/- spec.l01Finite -/
def c_spec_l01Finite : FV := ⟨7, [.tmp 2],
  .seq (.ops [⟨.mov (.const (.bool false)), some 2, none⟩])
  (.seq (.ops [⟨.mov (.tmp 0), some 3, none⟩,
    ⟨.mov (.tmp 0), some 4, none⟩,
    ⟨.fbin .sub (.tmp 3) (.tmp 4), some 5, none⟩,
    ⟨.fbin .eql (.tmp 5) (.const (.float .f32 0)), some 6, none⟩,
    ⟨.mov (.tmp 6), some 2, none⟩])
  (.ret))⟩
theorem ok_spec_l01Finite : cmpF Try.prog Try.f97 = some c_spec_l01Finite := by kernel_rfl

/- impl.lnTime -/
def c_impl_lnTime : FV := ⟨13, [.tmp 2],
  .seq (.ops [⟨.box 87 (.tmp 0), some 1, none⟩,
    ⟨.mov (.const (.float .f32 0)), some 2, none⟩])
  (.seq (.ops [⟨.addr (.tmp 1) 0, some 6, none⟩,
    ⟨.load none (.tmp 6), some 7, none⟩,
    ⟨.convF .f32 (.tmp 7), some 8, none⟩,
    ⟨.call 19 [.tmp 8], some 9, none⟩,
    ⟨.mov (.tmp 9), some 5, none⟩,
    ⟨.ext (.tmp 5) 0, some 10, none⟩,
    ⟨.ext (.tmp 5) 1, some 11, none⟩,
    ⟨.mov (.tmp 10), some 3, none⟩,
    ⟨.mov (.tmp 11), some 4, none⟩])
  (.seq (.ops [⟨.mov (.tmp 3), some 12, none⟩,
    ⟨.mov (.tmp 12), some 2, none⟩])
  (.ret)))⟩
theorem ok_impl_lnTime : cmpF Try.prog Try.f98 = some c_impl_lnTime := by kernel_rfl

/- impl.LevelOf -/
def c_impl_LevelOf : FV := ⟨7, [.tmp 2],
  .seq (.ops [⟨.box 87 (.tmp 0), some 1, none⟩,
    ⟨.mov (.const (.float .f32 0)), some 2, none⟩])
  (.seq (.ops [⟨.addr (.tmp 1) 1, some 3, none⟩,
    ⟨.load none (.tmp 3), some 4, none⟩,
    ⟨.convF .f32 (.tmp 4), some 5, none⟩,
    ⟨.fbin .quo (.tmp 5) (.const (.float .f32 1098907648)), some 6, none⟩,
    ⟨.mov (.tmp 6), some 2, none⟩])
  (.ret))⟩
theorem ok_impl_LevelOf : cmpF Try.prog Try.f99 = some c_impl_LevelOf := by kernel_rfl

/- impl.sum -/
def c_impl_sum : FV := ⟨24, [.tmp 2],
  .seq (.ops [⟨.mov (.const (.float .f32 0)), some 2, none⟩])
  (.seq (.seq (.ops [⟨.mov (.tmp 0), some 6, none⟩,
    ⟨.lenL (.tmp 6), some 7, none⟩,
    ⟨.bin .eql (.tmp 7) (.const (.int .i64 0)), some 8, none⟩])
  (.cond (.tmp 8) (.seq (.ops [⟨.mov (.const (.float .f32 0)), some 2, none⟩])
  (.ret)) (.skip)))
  (.seq (.ops [⟨.mov (.tmp 0), some 9, none⟩,
    ⟨.idxS 1 (.tmp 9) (.const (.int .i64 0)), some 10, none⟩,
    ⟨.load none (.tmp 10), some 11, none⟩,
    ⟨.mov (.tmp 11), some 3, none⟩])
  (.seq (.seq (.ops [⟨.mov (.tmp 0), some 12, none⟩,
    ⟨.slcL 1 (.tmp 12) (some (.const (.int .i64 1))) none, some 13, none⟩,
    ⟨.lenL (.tmp 13), some 14, none⟩,
    ⟨.mov (.const (.int .i64 0)), some 15, none⟩])
  (.block 0 (.loop (.seq (.ops [⟨.bin .lss (.tmp 15) (.tmp 14), some 16, none⟩])
  (.seq (.cond (.tmp 16) (.skip) (.exit 0))
  (.seq (.block 1 (.seq (.ops [⟨.idxS 1 (.tmp 13) (.tmp 15), some 17, none⟩,
    ⟨.load none (.tmp 17), some 18, none⟩,
    ⟨.mov (.tmp 18), some 5, none⟩])
  (.ops [⟨.mov (.tmp 3), some 19, none⟩,
    ⟨.mov (.tmp 5), some 20, none⟩,
    ⟨.fbin .add (.tmp 19) (.tmp 20), some 21, none⟩,
    ⟨.mov (.tmp 21), some 3, none⟩])))
  (.ops [⟨.bin .add (.tmp 15) (.const (.int .i64 1)), some 22, none⟩,
    ⟨.mov (.tmp 22), some 15, none⟩])))))))
  (.seq (.ops [⟨.mov (.tmp 3), some 23, none⟩,
    ⟨.mov (.tmp 23), some 2, none⟩])
  (.ret)))))⟩
theorem ok_impl_sum : cmpF Try.prog Try.f100 = some c_impl_sum := by kernel_rfl

/- impl.finite -/
def c_impl_finite : FV := ⟨7, [.tmp 2],
  .seq (.ops [⟨.mov (.const (.bool false)), some 2, none⟩])
  (.seq (.ops [⟨.mov (.tmp 0), some 3, none⟩,
    ⟨.mov (.tmp 0), some 4, none⟩,
    ⟨.fbin .sub (.tmp 3) (.tmp 4), some 5, none⟩,
    ⟨.fbin .eql (.tmp 5) (.const (.float .f32 0)), some 6, none⟩,
    ⟨.mov (.tmp 6), some 2, none⟩])
  (.ret))⟩
theorem ok_impl_finite : cmpF Try.prog Try.f101 = some c_impl_finite := by kernel_rfl

/- spec.l03Drawdown -/
def c_spec_l03Drawdown : FV := ⟨34, [.tmp 10],
  .seq (.ops [⟨.box 70 (.tmp 0), some 5, none⟩,
    ⟨.box 39 (.tmp 1), some 6, none⟩,
    ⟨.mov (.const (.float .f32 0)), some 10, none⟩])
  (.seq (.ops [⟨.load (some 2) (.tmp 5), some 14, none⟩,
    ⟨.load (some 3) (.tmp 6), some 15, none⟩,
    ⟨.mov (.tmp 2), some 16, none⟩,
    ⟨.mov (.tmp 3), some 17, none⟩,
    ⟨.mov (.tmp 4), some 18, none⟩,
    ⟨.call 90 [.tmp 14, .tmp 15, .tmp 16, .tmp 17, .tmp 18], some 19, none⟩,
    ⟨.mov (.tmp 19), some 11, none⟩])
  (.seq (.seq (.ops [⟨.mov (.tmp 11), some 20, none⟩,
    ⟨.fbin .gtr (.tmp 20) (.const (.float .f32 1117782016)), some 21, none⟩])
  (.cond (.tmp 21) (.seq (.ops [⟨.mov (.const (.float .f32 0)), some 10, none⟩])
  (.ret)) (.skip)))
  (.seq (.ops [⟨.mov (.const (.float .f32 1095307227)), some 12, none⟩])
  (.seq (.ops [⟨.mov (.tmp 12), some 22, none⟩,
    ⟨.addr (.tmp 5) 0, some 23, none⟩,
    ⟨.load none (.tmp 23), some 24, none⟩,
    ⟨.fbin .mul (.tmp 22) (.tmp 24), some 25, none⟩,
    ⟨.mov (.tmp 25), some 12, none⟩])
  (.seq (.ops [⟨.addr (.tmp 6) 2, some 26, none⟩,
    ⟨.load none (.tmp 26), some 27, none⟩,
    ⟨.mov (.tmp 12), some 28, none⟩,
    ⟨.fbin .quo (.tmp 27) (.tmp 28), some 29, none⟩,
    ⟨.mov (.tmp 29), some 13, none⟩])
  (.seq (.ops [⟨.mov (.tmp 13), some 30, none⟩,
    ⟨.mov (.tmp 11), some 31, none⟩,
    ⟨.call 65 [.tmp 31], some 32, none⟩,
    ⟨.fbin .mul (.tmp 30) (.tmp 32), some 33, none⟩,
    ⟨.mov (.tmp 33), some 10, none⟩])
  (.ret)))))))⟩
theorem ok_spec_l03Drawdown : cmpF Try.prog Try.f102 = some c_spec_l03Drawdown := by kernel_rfl

/- impl.drawdown -/
def c_impl_drawdown : FV := ⟨36, [.tmp 10],
  .seq (.ops [⟨.box 70 (.tmp 0), some 5, none⟩,
    ⟨.box 39 (.tmp 1), some 6, none⟩,
    ⟨.mov (.const (.float .f32 0)), some 10, none⟩])
  (.seq (.ops [⟨.load (some 2) (.tmp 5), some 14, none⟩,
    ⟨.load (some 3) (.tmp 6), some 15, none⟩,
    ⟨.mov (.tmp 2), some 16, none⟩,
    ⟨.mov (.tmp 3), some 17, none⟩,
    ⟨.mov (.tmp 4), some 18, none⟩,
    ⟨.call 92 [.tmp 14, .tmp 15, .tmp 16, .tmp 17, .tmp 18], some 19, none⟩,
    ⟨.mov (.tmp 19), some 11, none⟩])
  (.seq (.seq (.ops [⟨.mov (.tmp 11), some 20, none⟩,
    ⟨.fbin .gtr (.tmp 20) (.const (.float .f32 1117782016)), some 21, none⟩])
  (.cond (.tmp 21) (.seq (.ops [⟨.mov (.const (.float .f32 0)), some 10, none⟩])
  (.ret)) (.skip)))
  (.seq (.ops [⟨.mov (.tmp 11), some 23, none⟩,
    ⟨.call 23 [.tmp 23], some 24, none⟩,
    ⟨.mov (.tmp 24), some 22, none⟩,
    ⟨.ext (.tmp 22) 0, some 25, none⟩,
    ⟨.ext (.tmp 22) 1, some 26, none⟩,
    ⟨.mov (.tmp 25), some 12, none⟩,
    ⟨.mov (.tmp 26), some 13, none⟩])
  (.seq (.bops [⟨.addr (.tmp 6) 2, some 27, none⟩,
    ⟨.load none (.tmp 27), some 28, none⟩,
    ⟨.call 70 [], some 29, none⟩,
    ⟨.addr (.tmp 5) 0, some 30, none⟩,
    ⟨.load none (.tmp 30), some 31, none⟩,
    ⟨.fbin .mul (.tmp 29) (.tmp 31), some 32, none⟩,
    ⟨.fbin .quo (.tmp 28) (.tmp 32), some 33, none⟩,
    ⟨.mov (.tmp 12), some 34, none⟩,
    ⟨.fbin .mul (.tmp 33) (.tmp 34), some 35, none⟩,
    ⟨.mov (.tmp 35), some 10, none⟩])
  (.ret)))))⟩
theorem ok_impl_drawdown : cmpF Try.prog Try.f103 = some c_impl_drawdown := by kernel_rfl

end Go.Proofs.Ytngfhggdombdgaa
