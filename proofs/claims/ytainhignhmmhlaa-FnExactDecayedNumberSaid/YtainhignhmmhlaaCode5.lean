/- The code of the Go functions in the generator's own form, printed by a program of mine (gen.py) out of the loaded program; each with the check that it is so. -/
import Derived.Test.YtainhignhmmhlaaVcFn
import Derived.Test.YtainhignhmmhlaaGeo
import Derived.Test.YtainhignhmmhlaaRows
import Derived.KernelRfl
namespace Go.Proofs.Ytainhignhmmhlaa
open Go Go.Fl Go.Vc
set_option linter.all false
set_option maxRecDepth 100000

/- spec.l04Ok -/
def c_spec_l04Ok : FV := ⟨28, [.tmp 2],
  .seq (.ops [⟨.mov (.const (.bool false)), some 2, none⟩])
  (.seq (.seq (.ops [⟨.mov (.tmp 0), some 5, none⟩,
    ⟨.lenL (.tmp 5), some 6, none⟩,
    ⟨.bin .gtr (.tmp 6) (.const (.int .i64 40)), some 7, none⟩])
  (.cond (.tmp 7) (.seq (.ops [⟨.mov (.const (.bool false)), some 2, none⟩])
  (.ret)) (.skip)))
  (.seq (.ops [⟨.mov (.const (.int .i64 0)), some 3, none⟩])
  (.seq (.seq (.ops [⟨.mov (.const (.int .i64 0)), some 4, none⟩])
  (.block 0 (.loop (.seq (.seq (.ops [⟨.mov (.tmp 4), some 8, none⟩,
    ⟨.mov (.tmp 0), some 9, none⟩,
    ⟨.lenL (.tmp 9), some 10, none⟩,
    ⟨.bin .lss (.tmp 8) (.tmp 10), some 11, none⟩])
  (.cond (.tmp 11) (.skip) (.exit 0)))
  (.seq (.block 1 (.seq (.seq (.ops [⟨.mov (.tmp 0), some 14, none⟩,
    ⟨.mov (.tmp 4), some 15, none⟩,
    ⟨.idxS 2 (.tmp 14) (.tmp 15), some 16, none⟩,
    ⟨.addr (.tmp 16) 0, some 17, none⟩,
    ⟨.load none (.tmp 17), some 18, none⟩,
    ⟨.mov (.tmp 3), some 19, none⟩,
    ⟨.bin .add (.tmp 19) (.const (.int .i64 1)), some 20, none⟩,
    ⟨.call 95 [.tmp 18, .tmp 20, .const (.int .i64 100000)], some 21, none⟩,
    ⟨.un .not (.tmp 21), some 22, none⟩])
  (.cond (.tmp 22) (.seq (.ops [⟨.mov (.const (.bool false)), some 2, none⟩])
  (.ret)) (.skip)))
  (.ops [⟨.mov (.tmp 0), some 23, none⟩,
    ⟨.mov (.tmp 4), some 24, none⟩,
    ⟨.idxS 2 (.tmp 23) (.tmp 24), some 25, none⟩,
    ⟨.addr (.tmp 25) 0, some 26, none⟩,
    ⟨.load none (.tmp 26), some 27, none⟩,
    ⟨.mov (.tmp 27), some 3, none⟩])))
  (.ops [⟨.mov (.tmp 4), some 12, none⟩,
    ⟨.bin .add (.tmp 12) (.const (.int .i64 1)), some 13, none⟩,
    ⟨.mov (.tmp 13), some 4, none⟩]))))))
  (.seq (.ops [⟨.mov (.const (.bool true)), some 2, none⟩])
  (.ret)))))⟩
theorem ok_spec_l04Ok : cmpF Try.prog Try.f119 = some c_spec_l04Ok := by kernel_rfl

/- impl.timesOk -/
def c_impl_timesOk : FV := ⟨32, [.tmp 2],
  .seq (.ops [⟨.mov (.const (.bool false)), some 2, none⟩])
  (.seq (.seq (.ops [⟨.mov (.tmp 0), some 5, none⟩,
    ⟨.lenL (.tmp 5), some 6, none⟩,
    ⟨.mov (.const (.int .i64 0)), some 7, none⟩])
  (.block 0 (.loop (.seq (.ops [⟨.bin .lss (.tmp 7) (.tmp 6), some 8, none⟩])
  (.seq (.cond (.tmp 8) (.skip) (.exit 0))
  (.seq (.block 1 (.seq (.ops [⟨.mov (.tmp 7), some 9, none⟩,
    ⟨.idxS 1 (.tmp 5) (.tmp 7), some 10, none⟩,
    ⟨.load none (.tmp 10), some 11, none⟩,
    ⟨.mov (.tmp 9), some 3, none⟩,
    ⟨.mov (.tmp 11), some 4, none⟩])
  (.seq (.ops [⟨.mov (.tmp 4), some 12, none⟩,
    ⟨.call 144 [.tmp 12], some 13, none⟩,
    ⟨.un .not (.tmp 13), some 14, none⟩,
    ⟨.mov (.tmp 14), some 15, none⟩,
    ⟨.mov (.tmp 3), some 16, some (15, false)⟩,
    ⟨.bin .gtr (.tmp 16) (.const (.int .i64 0)), some 17, some (15, false)⟩,
    ⟨.mov (.tmp 17), some 18, some (15, false)⟩,
    ⟨.mov (.tmp 0), some 19, some (18, true)⟩,
    ⟨.mov (.tmp 3), some 20, some (18, true)⟩,
    ⟨.bin .sub (.tmp 20) (.const (.int .i64 1)), some 21, some (18, true)⟩,
    ⟨.idxS 1 (.tmp 19) (.tmp 21), some 22, some (18, true)⟩,
    ⟨.load none (.tmp 22), some 23, some (18, true)⟩,
    ⟨.mov (.tmp 4), some 24, some (18, true)⟩,
    ⟨.bin .geq (.tmp 23) (.tmp 24), some 25, some (18, true)⟩,
    ⟨.pick (.tmp 18) (.tmp 25) (.const (.bool false)), some 26, some (15, false)⟩,
    ⟨.pick (.tmp 15) (.const (.bool true)) (.tmp 26), some 27, none⟩])
  (.cond (.tmp 27) (.seq (.ops [⟨.mov (.const (.bool false)), some 2, none⟩])
  (.ret)) (.skip)))))
  (.ops [⟨.bin .add (.tmp 7) (.const (.int .i64 1)), some 28, none⟩,
    ⟨.mov (.tmp 28), some 7, none⟩])))))))
  (.seq (.ops [⟨.mov (.tmp 0), some 29, none⟩,
    ⟨.lenL (.tmp 29), some 30, none⟩,
    ⟨.bin .leq (.tmp 30) (.const (.int .i64 40)), some 31, none⟩,
    ⟨.mov (.tmp 31), some 2, none⟩])
  (.ret)))⟩
theorem ok_impl_timesOk : cmpF Try.prog Try.f120 = some c_impl_timesOk := by kernel_rfl

/- slices.EqualFunc[[]impl.Well,[]impl.Well,impl.Well,impl.Well] -/
def c_slices_EqualFunc___impl_Well___impl_Well_impl_Well_impl_Well : FV := ⟨32, [.tmp 6],
  .seq (.ops [⟨.mov (.const (.bool false)), some 6, none⟩])
  (.seq (.seq (.ops [⟨.mov (.tmp 0), some 10, none⟩,
    ⟨.lenL (.tmp 10), some 11, none⟩,
    ⟨.mov (.tmp 1), some 12, none⟩,
    ⟨.lenL (.tmp 12), some 13, none⟩,
    ⟨.bin .neq (.tmp 11) (.tmp 13), some 14, none⟩])
  (.cond (.tmp 14) (.seq (.ops [⟨.mov (.const (.bool false)), some 6, none⟩])
  (.ret)) (.skip)))
  (.seq (.seq (.ops [⟨.mov (.tmp 0), some 15, none⟩,
    ⟨.lenL (.tmp 15), some 16, none⟩,
    ⟨.mov (.const (.int .i64 0)), some 17, none⟩])
  (.block 0 (.loop (.seq (.ops [⟨.bin .lss (.tmp 17) (.tmp 16), some 18, none⟩])
  (.seq (.cond (.tmp 18) (.skip) (.exit 0))
  (.seq (.block 1 (.seq (.ops [⟨.mov (.tmp 17), some 19, none⟩,
    ⟨.idxS 3 (.tmp 15) (.tmp 17), some 20, none⟩,
    ⟨.load (some 3) (.tmp 20), some 21, none⟩,
    ⟨.alloc 53 (.agg (#[.int .i8 0, .int .i8 0, .float .f32 0])), some 8, none⟩,
    ⟨.mov (.tmp 19), some 7, none⟩,
    ⟨.store 3 (.tmp 8) (.tmp 21), none, none⟩])
  (.seq (.ops [⟨.mov (.tmp 1), some 22, none⟩,
    ⟨.mov (.tmp 7), some 23, none⟩,
    ⟨.idxS 3 (.tmp 22) (.tmp 23), some 24, none⟩,
    ⟨.load (some 3) (.tmp 24), some 25, none⟩,
    ⟨.alloc 53 (.agg (#[.int .i8 0, .int .i8 0, .float .f32 0])), some 9, none⟩,
    ⟨.store 3 (.tmp 9) (.tmp 25), none, none⟩])
  (.seq (.ops [⟨.mov (.tmp 2), some 26, none⟩,
    ⟨.load (some 3) (.tmp 8), some 27, none⟩,
    ⟨.load (some 3) (.tmp 9), some 28, none⟩,
    ⟨.callv (.tmp 26) [.tmp 27, .tmp 28], some 29, none⟩,
    ⟨.un .not (.tmp 29), some 30, none⟩])
  (.cond (.tmp 30) (.seq (.ops [⟨.mov (.const (.bool false)), some 6, none⟩])
  (.ret)) (.skip))))))
  (.ops [⟨.bin .add (.tmp 17) (.const (.int .i64 1)), some 31, none⟩,
    ⟨.mov (.tmp 31), some 17, none⟩])))))))
  (.seq (.ops [⟨.mov (.const (.bool true)), some 6, none⟩])
  (.ret))))⟩
theorem ok_slices_EqualFunc___impl_Well___impl_Well_impl_Well_impl_Well : cmpF Try.prog Try.f121 = some c_slices_EqualFunc___impl_Well___impl_Well_impl_Well_impl_Well := by kernel_rfl

/- impl.SameWells$1 -/
def c_impl_SameWells_1 : FV := ⟨24, [.tmp 4],
  .seq (.ops [⟨.box 53 (.tmp 0), some 2, none⟩,
    ⟨.box 53 (.tmp 1), some 3, none⟩,
    ⟨.mov (.const (.bool false)), some 4, none⟩])
  (.seq (.ops [⟨.addr (.tmp 2) 0, some 5, none⟩,
    ⟨.load none (.tmp 5), some 6, none⟩,
    ⟨.addr (.tmp 3) 0, some 7, none⟩,
    ⟨.load none (.tmp 7), some 8, none⟩,
    ⟨.bin .eql (.tmp 6) (.tmp 8), some 9, none⟩,
    ⟨.mov (.tmp 9), some 10, none⟩,
    ⟨.addr (.tmp 2) 1, some 11, some (10, true)⟩,
    ⟨.load none (.tmp 11), some 12, some (10, true)⟩,
    ⟨.addr (.tmp 3) 1, some 13, some (10, true)⟩,
    ⟨.load none (.tmp 13), some 14, some (10, true)⟩,
    ⟨.bin .eql (.tmp 12) (.tmp 14), some 15, some (10, true)⟩,
    ⟨.pick (.tmp 10) (.tmp 15) (.const (.bool false)), some 16, none⟩,
    ⟨.mov (.tmp 16), some 17, none⟩,
    ⟨.addr (.tmp 2) 2, some 18, some (17, true)⟩,
    ⟨.load none (.tmp 18), some 19, some (17, true)⟩,
    ⟨.addr (.tmp 3) 2, some 20, some (17, true)⟩,
    ⟨.load none (.tmp 20), some 21, some (17, true)⟩,
    ⟨.call 37 [.tmp 19, .tmp 21], some 22, some (17, true)⟩,
    ⟨.pick (.tmp 17) (.tmp 22) (.const (.bool false)), some 23, none⟩,
    ⟨.mov (.tmp 23), some 4, none⟩])
  (.ret))⟩
theorem ok_impl_SameWells_1 : cmpF Try.prog Try.f122 = some c_impl_SameWells_1 := by kernel_rfl

/- spec.l04Logger -/
def c_spec_l04Logger : FV := ⟨28, [.tmp 2],
  .seq (.ops [⟨.mov (.const (.int .i16 0)), some 2, none⟩])
  (.seq (.ops [⟨.mov (.tmp 0), some 6, none⟩,
    ⟨.fbin .mul (.tmp 6) (.const (.float .f32 1098907648)), some 7, none⟩,
    ⟨.mov (.tmp 7), some 3, none⟩])
  (.seq (.block 0 (.seq (.ops [⟨.mov (.tmp 3), some 9, none⟩,
    ⟨.fbin .geq (.tmp 9) (.const (.float .f32 0)), some 10, none⟩,
    ⟨.mov (.tmp 10), some 8, none⟩])
  (.cond (.tmp 8) (.seq (.seq (.ops [⟨.mov (.tmp 3), some 11, none⟩,
    ⟨.fbin .add (.tmp 11) (.const (.float .f32 1056964608)), some 12, none⟩,
    ⟨.mov (.tmp 12), some 4, none⟩])
  (.seq (.ops [⟨.mov (.tmp 4), some 13, none⟩,
    ⟨.fbin .lss (.tmp 13) (.const (.float .f32 1191181824)), some 14, none⟩])
  (.cond (.tmp 14) (.seq (.ops [⟨.mov (.tmp 4), some 15, none⟩,
    ⟨.convI .i64 (.tmp 15), some 16, none⟩,
    ⟨.convI .i16 (.tmp 16), some 17, none⟩,
    ⟨.mov (.tmp 17), some 2, none⟩])
  (.ret)) (.skip))))
  (.seq (.ops [⟨.mov (.const (.int .i16 32767)), some 2, none⟩])
  (.ret))) (.seq (.ops [⟨.mov (.tmp 3), some 19, none⟩,
    ⟨.fbin .lss (.tmp 19) (.const (.float .f32 0)), some 20, none⟩,
    ⟨.mov (.tmp 20), some 18, none⟩])
  (.cond (.tmp 18) (.seq (.seq (.ops [⟨.mov (.tmp 3), some 21, none⟩,
    ⟨.fbin .sub (.tmp 21) (.const (.float .f32 1056964608)), some 22, none⟩,
    ⟨.mov (.tmp 22), some 5, none⟩])
  (.seq (.ops [⟨.mov (.tmp 5), some 23, none⟩,
    ⟨.fbin .gtr (.tmp 23) (.const (.float .f32 3338665984)), some 24, none⟩])
  (.cond (.tmp 24) (.seq (.ops [⟨.mov (.tmp 5), some 25, none⟩,
    ⟨.convI .i64 (.tmp 25), some 26, none⟩,
    ⟨.convI .i16 (.tmp 26), some 27, none⟩,
    ⟨.mov (.tmp 27), some 2, none⟩])
  (.ret)) (.skip))))
  (.seq (.ops [⟨.mov (.const (.int .i16 (-32768))), some 2, none⟩])
  (.ret))) (.skip))))))
  (.seq (.ops [⟨.mov (.const (.int .i16 0)), some 2, none⟩])
  (.ret))))⟩
theorem ok_spec_l04Logger : cmpF Try.prog Try.f123 = some c_spec_l04Logger := by kernel_rfl

/- spec.l03Asked -/
def c_spec_l03Asked : FV := ⟨47, [.tmp 10],
  .seq (.ops [⟨.box 28 (.tmp 0), some 5, none⟩,
    ⟨.mov (.const (.int .i64 0)), some 10, none⟩])
  (.seq (.ops [⟨.load (some 2) (.tmp 5), some 13, none⟩,
    ⟨.call 94 [.tmp 13], some 14, none⟩,
    ⟨.mov (.tmp 14), some 11, none⟩])
  (.seq (.seq (.ops [⟨.mov (.const (.int .i64 0)), some 12, none⟩])
  (.block 0 (.loop (.seq (.seq (.ops [⟨.mov (.tmp 12), some 15, none⟩,
    ⟨.mov (.tmp 1), some 16, none⟩,
    ⟨.lenL (.tmp 16), some 17, none⟩,
    ⟨.bin .lss (.tmp 15) (.tmp 17), some 18, none⟩,
    ⟨.mov (.tmp 18), some 19, none⟩,
    ⟨.mov (.tmp 11), some 20, some (19, true)⟩,
    ⟨.pick (.tmp 19) (.tmp 20) (.const (.bool false)), some 21, none⟩])
  (.cond (.tmp 21) (.skip) (.exit 0)))
  (.seq (.block 1 (.ops [⟨.mov (.tmp 1), some 24, none⟩,
    ⟨.mov (.tmp 12), some 25, none⟩,
    ⟨.idxS 3 (.tmp 24) (.tmp 25), some 26, none⟩,
    ⟨.load (some 3) (.tmp 26), some 27, none⟩,
    ⟨.call 106 [.tmp 27], some 28, none⟩,
    ⟨.mov (.tmp 28), some 11, none⟩]))
  (.ops [⟨.mov (.tmp 12), some 22, none⟩,
    ⟨.bin .add (.tmp 22) (.const (.int .i64 1)), some 23, none⟩,
    ⟨.mov (.tmp 23), some 12, none⟩]))))))
  (.seq (.seq (.ops [⟨.mov (.tmp 11), some 29, none⟩,
    ⟨.un .not (.tmp 29), some 30, none⟩])
  (.cond (.tmp 30) (.seq (.ops [⟨.mov (.const (.int .i64 1)), some 10, none⟩])
  (.ret)) (.skip)))
  (.seq (.seq (.ops [⟨.mov (.tmp 1), some 31, none⟩,
    ⟨.lenL (.tmp 31), some 32, none⟩,
    ⟨.bin .gtr (.tmp 32) (.const (.int .i64 12)), some 33, none⟩])
  (.cond (.tmp 33) (.seq (.ops [⟨.mov (.const (.int .i64 3)), some 10, none⟩])
  (.ret)) (.skip)))
  (.seq (.seq (.ops [⟨.mov (.tmp 2), some 34, none⟩,
    ⟨.call 140 [.tmp 34], some 35, none⟩,
    ⟨.un .not (.tmp 35), some 36, none⟩,
    ⟨.mov (.tmp 36), some 37, none⟩,
    ⟨.mov (.tmp 3), some 38, some (37, false)⟩,
    ⟨.call 140 [.tmp 38], some 39, some (37, false)⟩,
    ⟨.un .not (.tmp 39), some 40, some (37, false)⟩,
    ⟨.pick (.tmp 37) (.const (.bool true)) (.tmp 40), some 41, none⟩,
    ⟨.mov (.tmp 41), some 42, none⟩,
    ⟨.mov (.tmp 4), some 43, some (42, false)⟩,
    ⟨.call 149 [.tmp 43], some 44, some (42, false)⟩,
    ⟨.un .not (.tmp 44), some 45, some (42, false)⟩,
    ⟨.pick (.tmp 42) (.const (.bool true)) (.tmp 45), some 46, none⟩])
  (.cond (.tmp 46) (.seq (.ops [⟨.mov (.const (.int .i64 2)), some 10, none⟩])
  (.ret)) (.skip)))
  (.seq (.ops [⟨.mov (.const (.int .i64 0)), some 10, none⟩])
  (.ret)))))))⟩
theorem ok_spec_l03Asked : cmpF Try.prog Try.f126 = some c_spec_l03Asked := by kernel_rfl

/- spec.l03Argument -/
def c_spec_l03Argument : FV := ⟨56, [.tmp 10],
  .seq (.ops [⟨.box 28 (.tmp 0), some 5, none⟩,
    ⟨.box 53 (.tmp 1), some 6, none⟩,
    ⟨.mov (.const (.float .f32 0)), some 10, none⟩])
  (.seq (.ops [⟨.mov (.tmp 2), some 16, none⟩,
    ⟨.addr (.tmp 6) 0, some 17, none⟩,
    ⟨.load none (.tmp 17), some 18, none⟩,
    ⟨.convI .i64 (.tmp 18), some 19, none⟩,
    ⟨.bin .sub (.tmp 16) (.tmp 19), some 20, none⟩,
    ⟨.mov (.tmp 20), some 11, none⟩])
  (.seq (.ops [⟨.mov (.tmp 3), some 21, none⟩,
    ⟨.addr (.tmp 6) 1, some 22, none⟩,
    ⟨.load none (.tmp 22), some 23, none⟩,
    ⟨.convI .i64 (.tmp 23), some 24, none⟩,
    ⟨.bin .sub (.tmp 21) (.tmp 24), some 25, none⟩,
    ⟨.mov (.tmp 25), some 12, none⟩])
  (.seq (.ops [⟨.mov (.tmp 11), some 26, none⟩,
    ⟨.mov (.tmp 11), some 27, none⟩,
    ⟨.bin .mul (.tmp 26) (.tmp 27), some 28, none⟩,
    ⟨.mov (.tmp 12), some 29, none⟩,
    ⟨.mov (.tmp 12), some 30, none⟩,
    ⟨.bin .mul (.tmp 29) (.tmp 30), some 31, none⟩,
    ⟨.bin .add (.tmp 28) (.tmp 31), some 32, none⟩,
    ⟨.convF .f32 (.tmp 32), some 33, none⟩,
    ⟨.mov (.tmp 33), some 13, none⟩])
  (.seq (.seq (.ops [⟨.mov (.tmp 11), some 34, none⟩,
    ⟨.bin .eql (.tmp 34) (.const (.int .i64 0)), some 35, none⟩,
    ⟨.mov (.tmp 35), some 36, none⟩,
    ⟨.mov (.tmp 12), some 37, some (36, true)⟩,
    ⟨.bin .eql (.tmp 37) (.const (.int .i64 0)), some 38, some (36, true)⟩,
    ⟨.pick (.tmp 36) (.tmp 38) (.const (.bool false)), some 39, none⟩])
  (.cond (.tmp 39) (.ops [⟨.mov (.const (.float .f32 1031798784)), some 13, none⟩]) (.skip)))
  (.seq (.ops [⟨.addr (.tmp 5) 0, some 40, none⟩,
    ⟨.load none (.tmp 40), some 41, none⟩,
    ⟨.fbin .mul (.const (.float .f32 1082130432)) (.tmp 41), some 42, none⟩,
    ⟨.mov (.tmp 42), some 14, none⟩])
  (.seq (.ops [⟨.mov (.tmp 14), some 43, none⟩,
    ⟨.mov (.tmp 4), some 44, none⟩,
    ⟨.convF .f32 (.tmp 44), some 45, none⟩,
    ⟨.fbin .mul (.tmp 43) (.tmp 45), some 46, none⟩,
    ⟨.mov (.tmp 46), some 14, none⟩])
  (.seq (.ops [⟨.mov (.tmp 13), some 47, none⟩,
    ⟨.addr (.tmp 5) 1, some 48, none⟩,
    ⟨.load none (.tmp 48), some 49, none⟩,
    ⟨.fbin .mul (.tmp 47) (.tmp 49), some 50, none⟩,
    ⟨.mov (.tmp 14), some 51, none⟩,
    ⟨.fbin .quo (.tmp 50) (.tmp 51), some 52, none⟩,
    ⟨.mov (.tmp 52), some 15, none⟩])
  (.seq (.seq (.ops [⟨.mov (.tmp 15), some 53, none⟩,
    ⟨.fbin .lss (.tmp 53) (.const (.float .f32 562036736)), some 54, none⟩])
  (.cond (.tmp 54) (.seq (.ops [⟨.mov (.const (.float .f32 562036736)), some 10, none⟩])
  (.ret)) (.skip)))
  (.seq (.ops [⟨.mov (.tmp 15), some 55, none⟩,
    ⟨.mov (.tmp 55), some 10, none⟩])
  (.ret))))))))))⟩
theorem ok_spec_l03Argument : cmpF Try.prog Try.f127 = some c_spec_l03Argument := by kernel_rfl

/- impl.momentsFault -/
def c_impl_momentsFault : FV := ⟨36, [.tmp 10],
  .seq (.ops [⟨.box 28 (.tmp 0), some 5, none⟩,
    ⟨.mov (.const (.int .i64 0)), some 10, none⟩])
  (.seq (.block 0 (.seq (.ops [⟨.load (some 2) (.tmp 5), some 12, none⟩,
    ⟨.call 33 [.tmp 12], some 13, none⟩,
    ⟨.un .not (.tmp 13), some 14, none⟩,
    ⟨.mov (.tmp 14), some 15, none⟩,
    ⟨.mov (.tmp 1), some 16, some (15, false)⟩,
    ⟨.call 130 [.tmp 16, .func 131], some 17, some (15, false)⟩,
    ⟨.pick (.tmp 15) (.const (.bool true)) (.tmp 17), some 18, none⟩,
    ⟨.mov (.tmp 18), some 11, none⟩])
  (.cond (.tmp 11) (.seq (.ops [⟨.mov (.const (.int .i64 1)), some 10, none⟩])
  (.ret)) (.seq (.ops [⟨.mov (.tmp 1), some 20, none⟩,
    ⟨.lenL (.tmp 20), some 21, none⟩,
    ⟨.bin .gtr (.tmp 21) (.const (.int .i64 12)), some 22, none⟩,
    ⟨.mov (.tmp 22), some 19, none⟩])
  (.cond (.tmp 19) (.seq (.ops [⟨.mov (.const (.int .i64 3)), some 10, none⟩])
  (.ret)) (.seq (.ops [⟨.mov (.tmp 2), some 24, none⟩,
    ⟨.call 107 [.tmp 24], some 25, none⟩,
    ⟨.un .not (.tmp 25), some 26, none⟩,
    ⟨.mov (.tmp 26), some 27, none⟩,
    ⟨.mov (.tmp 3), some 28, some (27, false)⟩,
    ⟨.call 107 [.tmp 28], some 29, some (27, false)⟩,
    ⟨.un .not (.tmp 29), some 30, some (27, false)⟩,
    ⟨.pick (.tmp 27) (.const (.bool true)) (.tmp 30), some 31, none⟩,
    ⟨.mov (.tmp 31), some 32, none⟩,
    ⟨.mov (.tmp 4), some 33, some (32, false)⟩,
    ⟨.call 150 [.tmp 33, .func 151], some 34, some (32, false)⟩,
    ⟨.pick (.tmp 32) (.const (.bool true)) (.tmp 34), some 35, none⟩,
    ⟨.mov (.tmp 35), some 23, none⟩])
  (.cond (.tmp 23) (.seq (.ops [⟨.mov (.const (.int .i64 2)), some 10, none⟩])
  (.ret)) (.skip))))))))
  (.seq (.ops [⟨.mov (.const (.int .i64 0)), some 10, none⟩])
  (.ret)))⟩
theorem ok_impl_momentsFault : cmpF Try.prog Try.f128 = some c_impl_momentsFault := by kernel_rfl

/- slices.ContainsFunc[[]impl.Well,impl.Well] -/
def c_slices_ContainsFunc___impl_Well_impl_Well : FV := ⟨9, [.tmp 4],
  .seq (.ops [⟨.mov (.const (.bool false)), some 4, none⟩])
  (.seq (.ops [⟨.mov (.tmp 0), some 5, none⟩,
    ⟨.mov (.tmp 1), some 6, none⟩,
    ⟨.call 152 [.tmp 5, .tmp 6], some 7, none⟩,
    ⟨.bin .geq (.tmp 7) (.const (.int .i64 0)), some 8, none⟩,
    ⟨.mov (.tmp 8), some 4, none⟩])
  (.ret))⟩
theorem ok_slices_ContainsFunc___impl_Well_impl_Well : cmpF Try.prog Try.f130 = some c_slices_ContainsFunc___impl_Well_impl_Well := by kernel_rfl

/- impl.badWell -/
def c_impl_badWell : FV := ⟨6, [.tmp 2],
  .seq (.ops [⟨.box 53 (.tmp 0), some 1, none⟩,
    ⟨.mov (.const (.bool false)), some 2, none⟩])
  (.seq (.ops [⟨.load (some 3) (.tmp 1), some 3, none⟩,
    ⟨.call 52 [.tmp 3], some 4, none⟩,
    ⟨.un .not (.tmp 4), some 5, none⟩,
    ⟨.mov (.tmp 5), some 2, none⟩])
  (.ret))⟩
theorem ok_impl_badWell : cmpF Try.prog Try.f131 = some c_impl_badWell := by kernel_rfl

/- spec.l01Finite -/
def c_spec_l01Finite : FV := ⟨7, [.tmp 2],
  .seq (.ops [⟨.mov (.const (.bool false)), some 2, none⟩])
  (.seq (.ops [⟨.mov (.tmp 0), some 3, none⟩,
    ⟨.mov (.tmp 0), some 4, none⟩,
    ⟨.fbin .sub (.tmp 3) (.tmp 4), some 5, none⟩,
    ⟨.fbin .eql (.tmp 5) (.const (.float .f32 0)), some 6, none⟩,
    ⟨.mov (.tmp 6), some 2, none⟩])
  (.ret))⟩
theorem ok_spec_l01Finite : cmpF Try.prog Try.f133 = some c_spec_l01Finite := by kernel_rfl

/- impl.lnTime -/
def c_impl_lnTime : FV := ⟨13, [.tmp 2],
  .seq (.ops [⟨.box 38 (.tmp 0), some 1, none⟩,
    ⟨.mov (.const (.float .f32 0)), some 2, none⟩])
  (.seq (.ops [⟨.addr (.tmp 1) 0, some 6, none⟩,
    ⟨.load none (.tmp 6), some 7, none⟩,
    ⟨.convF .f32 (.tmp 7), some 8, none⟩,
    ⟨.call 44 [.tmp 8], some 9, none⟩,
    ⟨.mov (.tmp 9), some 5, none⟩,
    ⟨.ext (.tmp 5) 0, some 10, none⟩,
    ⟨.ext (.tmp 5) 1, some 11, none⟩,
    ⟨.mov (.tmp 10), some 3, none⟩,
    ⟨.mov (.tmp 11), some 4, none⟩])
  (.seq (.ops [⟨.mov (.tmp 3), some 12, none⟩,
    ⟨.mov (.tmp 12), some 2, none⟩])
  (.ret)))⟩
theorem ok_impl_lnTime : cmpF Try.prog Try.f134 = some c_impl_lnTime := by kernel_rfl

/- impl.sum -/
def c_impl_sum : FV := ⟨24, [.tmp 2],
  .seq (.ops [⟨.mov (.const (.float .f32 0)), some 2, none⟩])
  (.seq (.seq (.ops [⟨.mov (.tmp 0), some 6, none⟩,
    ⟨.lenL (.tmp 6), some 7, none⟩,
    ⟨.bin .eql (.tmp 7) (.const (.int .i64 0)), some 8, none⟩])
  (.cond (.tmp 8) (.seq (.ops [⟨.mov (.const (.float .f32 0)), some 2, none⟩])
  (.ret)) (.skip)))
  (.seq (.ops [⟨.mov (.tmp 0), some 9, none⟩,
    ⟨.idxS 1 (.tmp 9) (.const (.int .i64 0)), some 10, none⟩,
    ⟨.load none (.tmp 10), some 11, none⟩,
    ⟨.mov (.tmp 11), some 3, none⟩])
  (.seq (.seq (.ops [⟨.mov (.tmp 0), some 12, none⟩,
    ⟨.slcL 1 (.tmp 12) (some (.const (.int .i64 1))) none, some 13, none⟩,
    ⟨.lenL (.tmp 13), some 14, none⟩,
    ⟨.mov (.const (.int .i64 0)), some 15, none⟩])
  (.block 0 (.loop (.seq (.ops [⟨.bin .lss (.tmp 15) (.tmp 14), some 16, none⟩])
  (.seq (.cond (.tmp 16) (.skip) (.exit 0))
  (.seq (.block 1 (.seq (.ops [⟨.idxS 1 (.tmp 13) (.tmp 15), some 17, none⟩,
    ⟨.load none (.tmp 17), some 18, none⟩,
    ⟨.mov (.tmp 18), some 5, none⟩])
  (.ops [⟨.mov (.tmp 3), some 19, none⟩,
    ⟨.mov (.tmp 5), some 20, none⟩,
    ⟨.fbin .add (.tmp 19) (.tmp 20), some 21, none⟩,
    ⟨.mov (.tmp 21), some 3, none⟩])))
  (.ops [⟨.bin .add (.tmp 15) (.const (.int .i64 1)), some 22, none⟩,
    ⟨.mov (.tmp 22), some 15, none⟩])))))))
  (.seq (.ops [⟨.mov (.tmp 3), some 23, none⟩,
    ⟨.mov (.tmp 23), some 2, none⟩])
  (.ret)))))⟩
theorem ok_impl_sum : cmpF Try.prog Try.f135 = some c_impl_sum := by kernel_rfl

/- impl.finite -/
def c_impl_finite : FV := ⟨7, [.tmp 2],
  .seq (.ops [⟨.mov (.const (.bool false)), some 2, none⟩])
  (.seq (.ops [⟨.mov (.tmp 0), some 3, none⟩,
    ⟨.mov (.tmp 0), some 4, none⟩,
    ⟨.fbin .sub (.tmp 3) (.tmp 4), some 5, none⟩,
    ⟨.fbin .eql (.tmp 5) (.const (.float .f32 0)), some 6, none⟩,
    ⟨.mov (.tmp 6), some 2, none⟩])
  (.ret))⟩
theorem ok_impl_finite : cmpF Try.prog Try.f136 = some c_impl_finite := by kernel_rfl

/- spec.l03Drawdown -/
def c_spec_l03Drawdown : FV := ⟨34, [.tmp 10],
  .seq (.ops [⟨.box 28 (.tmp 0), some 5, none⟩,
    ⟨.box 53 (.tmp 1), some 6, none⟩,
    ⟨.mov (.const (.float .f32 0)), some 10, none⟩])
  (.seq (.ops [⟨.load (some 2) (.tmp 5), some 14, none⟩,
    ⟨.load (some 3) (.tmp 6), some 15, none⟩,
    ⟨.mov (.tmp 2), some 16, none⟩,
    ⟨.mov (.tmp 3), some 17, none⟩,
    ⟨.mov (.tmp 4), some 18, none⟩,
    ⟨.call 127 [.tmp 14, .tmp 15, .tmp 16, .tmp 17, .tmp 18], some 19, none⟩,
    ⟨.mov (.tmp 19), some 11, none⟩])
  (.seq (.seq (.ops [⟨.mov (.tmp 11), some 20, none⟩,
    ⟨.fbin .gtr (.tmp 20) (.const (.float .f32 1117782016)), some 21, none⟩])
  (.cond (.tmp 21) (.seq (.ops [⟨.mov (.const (.float .f32 0)), some 10, none⟩])
  (.ret)) (.skip)))
  (.seq (.ops [⟨.mov (.const (.float .f32 1095307227)), some 12, none⟩])
  (.seq (.ops [⟨.mov (.tmp 12), some 22, none⟩,
    ⟨.addr (.tmp 5) 0, some 23, none⟩,
    ⟨.load none (.tmp 23), some 24, none⟩,
    ⟨.fbin .mul (.tmp 22) (.tmp 24), some 25, none⟩,
    ⟨.mov (.tmp 25), some 12, none⟩])
  (.seq (.ops [⟨.addr (.tmp 6) 2, some 26, none⟩,
    ⟨.load none (.tmp 26), some 27, none⟩,
    ⟨.mov (.tmp 12), some 28, none⟩,
    ⟨.fbin .quo (.tmp 27) (.tmp 28), some 29, none⟩,
    ⟨.mov (.tmp 29), some 13, none⟩])
  (.seq (.ops [⟨.mov (.tmp 13), some 30, none⟩,
    ⟨.mov (.tmp 11), some 31, none⟩,
    ⟨.call 105 [.tmp 31], some 32, none⟩,
    ⟨.fbin .mul (.tmp 30) (.tmp 32), some 33, none⟩,
    ⟨.mov (.tmp 33), some 10, none⟩])
  (.ret)))))))⟩
theorem ok_spec_l03Drawdown : cmpF Try.prog Try.f137 = some c_spec_l03Drawdown := by kernel_rfl

/- impl.drawdown -/
def c_impl_drawdown : FV := ⟨36, [.tmp 10],
  .seq (.ops [⟨.box 28 (.tmp 0), some 5, none⟩,
    ⟨.box 53 (.tmp 1), some 6, none⟩,
    ⟨.mov (.const (.float .f32 0)), some 10, none⟩])
  (.seq (.ops [⟨.load (some 2) (.tmp 5), some 14, none⟩,
    ⟨.load (some 3) (.tmp 6), some 15, none⟩,
    ⟨.mov (.tmp 2), some 16, none⟩,
    ⟨.mov (.tmp 3), some 17, none⟩,
    ⟨.mov (.tmp 4), some 18, none⟩,
    ⟨.call 129 [.tmp 14, .tmp 15, .tmp 16, .tmp 17, .tmp 18], some 19, none⟩,
    ⟨.mov (.tmp 19), some 11, none⟩])
  (.seq (.seq (.ops [⟨.mov (.tmp 11), some 20, none⟩,
    ⟨.fbin .gtr (.tmp 20) (.const (.float .f32 1117782016)), some 21, none⟩])
  (.cond (.tmp 21) (.seq (.ops [⟨.mov (.const (.float .f32 0)), some 10, none⟩])
  (.ret)) (.skip)))
  (.seq (.ops [⟨.mov (.tmp 11), some 23, none⟩,
    ⟨.call 48 [.tmp 23], some 24, none⟩,
    ⟨.mov (.tmp 24), some 22, none⟩,
    ⟨.ext (.tmp 22) 0, some 25, none⟩,
    ⟨.ext (.tmp 22) 1, some 26, none⟩,
    ⟨.mov (.tmp 25), some 12, none⟩,
    ⟨.mov (.tmp 26), some 13, none⟩])
  (.seq (.dops [⟨.addr (.tmp 6) 2, some 27, none⟩,
    ⟨.load none (.tmp 27), some 28, none⟩,
    ⟨.call 115 [], some 29, none⟩,
    ⟨.addr (.tmp 5) 0, some 30, none⟩,
    ⟨.load none (.tmp 30), some 31, none⟩,
    ⟨.fbin .mul (.tmp 29) (.tmp 31), some 32, none⟩,
    ⟨.fbin .quo (.tmp 28) (.tmp 32), some 33, none⟩,
    ⟨.mov (.tmp 12), some 34, none⟩,
    ⟨.fbin .mul (.tmp 33) (.tmp 34), some 35, none⟩,
    ⟨.mov (.tmp 35), some 10, none⟩])
  (.ret)))))⟩
theorem ok_impl_drawdown : cmpF Try.prog Try.f138 = some c_impl_drawdown := by kernel_rfl

/- spec.l00Src.next -/
def c_spec_l00Src_next : FV := ⟨62, [.tmp 2],
  .seq (.ops [⟨.mov (.const (.int .i64 0)), some 2, none⟩])
  (.seq (.ops [⟨.mov (.const (.int .i64 0)), some 3, none⟩])
  (.seq (.seq (.bops [⟨.mov (.tmp 0), some 4, none⟩,
    ⟨.nilc (.tmp 4), some 5, none⟩,
    ⟨.addr (.tmp 5) 1, some 6, none⟩,
    ⟨.load none (.tmp 6), some 7, none⟩,
    ⟨.mov (.tmp 0), some 8, none⟩,
    ⟨.nilc (.tmp 8), some 9, none⟩,
    ⟨.addr (.tmp 9) 0, some 10, none⟩,
    ⟨.load none (.tmp 10), some 11, none⟩,
    ⟨.lenL (.tmp 11), some 12, none⟩,
    ⟨.bin .lss (.tmp 7) (.tmp 12), some 13, none⟩])
  (.cond (.tmp 13) (.bops [⟨.mov (.tmp 0), some 14, none⟩,
    ⟨.nilc (.tmp 14), some 15, none⟩,
    ⟨.addr (.tmp 15) 0, some 16, none⟩,
    ⟨.load none (.tmp 16), some 17, none⟩,
    ⟨.mov (.tmp 0), some 18, none⟩,
    ⟨.nilc (.tmp 18), some 19, none⟩,
    ⟨.addr (.tmp 19) 1, some 20, none⟩,
    ⟨.load none (.tmp 20), some 21, none⟩,
    ⟨.idxS 1 (.tmp 17) (.tmp 21), some 22, none⟩,
    ⟨.load none (.tmp 22), some 23, none⟩,
    ⟨.convI .i64 (.tmp 23), some 24, none⟩,
    ⟨.mov (.tmp 24), some 3, none⟩]) (.skip)))
  (.seq (.ops [⟨.mov (.tmp 0), some 25, none⟩,
    ⟨.nilc (.tmp 25), some 26, none⟩,
    ⟨.addr (.tmp 26) 1, some 27, none⟩,
    ⟨.load none (.tmp 27), some 28, none⟩,
    ⟨.bin .add (.tmp 28) (.const (.int .i64 1)), some 29, none⟩,
    ⟨.nilc (.tmp 25), some 30, none⟩,
    ⟨.addr (.tmp 30) 1, some 31, none⟩,
    ⟨.store 1 (.tmp 31) (.tmp 29), none, none⟩])
  (.seq (.ops [⟨.mov (.tmp 0), some 32, none⟩,
    ⟨.mov (.tmp 0), some 33, none⟩,
    ⟨.nilc (.tmp 33), some 34, none⟩,
    ⟨.addr (.tmp 34) 2, some 35, none⟩,
    ⟨.load none (.tmp 35), some 36, none⟩,
    ⟨.bin .mul (.tmp 36) (.const (.int .u64 6364136223846793005)), some 37, none⟩,
    ⟨.mov (.tmp 3), some 38, none⟩,
    ⟨.convI .u64 (.tmp 38), some 39, none⟩,
    ⟨.bin .add (.tmp 37) (.tmp 39), some 40, none⟩,
    ⟨.bin .add (.tmp 40) (.const (.int .u64 1442695040888963407)), some 41, none⟩,
    ⟨.nilc (.tmp 32), some 42, none⟩,
    ⟨.addr (.tmp 42) 2, some 43, none⟩,
    ⟨.store 1 (.tmp 43) (.tmp 41), none, none⟩])
  (.seq (.seq (.bops [⟨.mov (.tmp 0), some 44, none⟩,
    ⟨.nilc (.tmp 44), some 45, none⟩,
    ⟨.addr (.tmp 45) 1, some 46, none⟩,
    ⟨.load none (.tmp 46), some 47, none⟩,
    ⟨.mov (.tmp 0), some 48, none⟩,
    ⟨.nilc (.tmp 48), some 49, none⟩,
    ⟨.addr (.tmp 49) 0, some 50, none⟩,
    ⟨.load none (.tmp 50), some 51, none⟩,
    ⟨.lenL (.tmp 51), some 52, none⟩,
    ⟨.bin .leq (.tmp 47) (.tmp 52), some 53, none⟩])
  (.cond (.tmp 53) (.seq (.ops [⟨.mov (.tmp 3), some 54, none⟩,
    ⟨.mov (.tmp 54), some 2, none⟩])
  (.ret)) (.skip)))
  (.seq (.ops [⟨.mov (.tmp 0), some 55, none⟩,
    ⟨.nilc (.tmp 55), some 56, none⟩,
    ⟨.addr (.tmp 56) 2, some 57, none⟩,
    ⟨.load none (.tmp 57), some 58, none⟩,
    ⟨.bin .shr (.tmp 58) (.const (.int .u64 40)), some 59, none⟩,
    ⟨.bin .and (.tmp 59) (.const (.int .u64 255)), some 60, none⟩,
    ⟨.convI .i64 (.tmp 60), some 61, none⟩,
    ⟨.mov (.tmp 61), some 2, none⟩])
  (.ret)))))))⟩
theorem ok_spec_l00Src_next : cmpF Try.prog Try.f139 = some c_spec_l00Src_next := by kernel_rfl

/- spec.l03Place -/
def c_spec_l03Place : FV := ⟨5, [.tmp 2],
  .seq (.ops [⟨.mov (.const (.bool false)), some 2, none⟩])
  (.seq (.ops [⟨.mov (.tmp 0), some 3, none⟩,
    ⟨.call 95 [.tmp 3, .const (.int .i64 (-100)), .const (.int .i64 100)], some 4, none⟩,
    ⟨.mov (.tmp 4), some 2, none⟩])
  (.ret))⟩
theorem ok_spec_l03Place : cmpF Try.prog Try.f140 = some c_spec_l03Place := by kernel_rfl

/- spec.l03Plain -/
def c_spec_l03Plain : FV := ⟨9, [.tmp 2],
  .seq (.ops [⟨.mov (.const (.bool false)), some 2, none⟩])
  (.seq (.ops [⟨.mov (.tmp 0), some 3, none⟩,
    ⟨.fbin .geq (.tmp 3) (.const (.float .f32 3380609024)), some 4, none⟩,
    ⟨.mov (.tmp 4), some 5, none⟩,
    ⟨.mov (.tmp 0), some 6, some (5, true)⟩,
    ⟨.fbin .leq (.tmp 6) (.const (.float .f32 1233125376)), some 7, some (5, true)⟩,
    ⟨.pick (.tmp 5) (.tmp 7) (.const (.bool false)), some 8, none⟩,
    ⟨.mov (.tmp 8), some 2, none⟩])
  (.ret))⟩
theorem ok_spec_l03Plain : cmpF Try.prog Try.f141 = some c_spec_l03Plain := by kernel_rfl

/- impl.isAmount -/
def c_impl_isAmount : FV := ⟨9, [.tmp 2],
  .seq (.ops [⟨.mov (.const (.bool false)), some 2, none⟩])
  (.seq (.ops [⟨.mov (.tmp 0), some 3, none⟩,
    ⟨.call 30 [.tmp 3], some 4, none⟩,
    ⟨.mov (.tmp 4), some 5, none⟩,
    ⟨.mov (.tmp 0), some 6, some (5, true)⟩,
    ⟨.fbin .geq (.tmp 6) (.const (.float .f32 0)), some 7, some (5, true)⟩,
    ⟨.pick (.tmp 5) (.tmp 7) (.const (.bool false)), some 8, none⟩,
    ⟨.mov (.tmp 8), some 2, none⟩])
  (.ret))⟩
theorem ok_impl_isAmount : cmpF Try.prog Try.f142 = some c_impl_isAmount := by kernel_rfl

/- impl.isTimes -/
def c_impl_isTimes : FV := ⟨5, [.tmp 2],
  .seq (.ops [⟨.mov (.const (.bool false)), some 2, none⟩])
  (.seq (.ops [⟨.mov (.tmp 0), some 3, none⟩,
    ⟨.call 96 [.tmp 3, .const (.int .i64 0), .const (.int .i64 1000)], some 4, none⟩,
    ⟨.mov (.tmp 4), some 2, none⟩])
  (.ret))⟩
theorem ok_impl_isTimes : cmpF Try.prog Try.f143 = some c_impl_isTimes := by kernel_rfl

/- impl.isMoment -/
def c_impl_isMoment : FV := ⟨5, [.tmp 2],
  .seq (.ops [⟨.mov (.const (.bool false)), some 2, none⟩])
  (.seq (.ops [⟨.mov (.tmp 0), some 3, none⟩,
    ⟨.call 96 [.tmp 3, .const (.int .i64 1), .const (.int .i64 100000)], some 4, none⟩,
    ⟨.mov (.tmp 4), some 2, none⟩])
  (.ret))⟩
theorem ok_impl_isMoment : cmpF Try.prog Try.f144 = some c_impl_isMoment := by kernel_rfl

/- math.floor -/
def c_math_floor : FV := ⟨38, [.tmp 2],
  .seq (.ops [⟨.mov (.const (.float .f64 0)), some 2, none⟩])
  (.seq (.seq (.ops [⟨.mov (.tmp 0), some 7, none⟩,
    ⟨.fbin .eql (.tmp 7) (.const (.float .f64 0)), some 8, none⟩,
    ⟨.mov (.tmp 8), some 9, none⟩,
    ⟨.mov (.tmp 0), some 10, some (9, false)⟩,
    ⟨.call 153 [.tmp 10], some 11, some (9, false)⟩,
    ⟨.pick (.tmp 9) (.const (.bool true)) (.tmp 11), some 12, none⟩,
    ⟨.mov (.tmp 12), some 13, none⟩,
    ⟨.mov (.tmp 0), some 14, some (13, false)⟩,
    ⟨.call 154 [.tmp 14, .const (.int .i64 0)], some 15, some (13, false)⟩,
    ⟨.pick (.tmp 13) (.const (.bool true)) (.tmp 15), some 16, none⟩])
  (.cond (.tmp 16) (.seq (.ops [⟨.mov (.tmp 0), some 17, none⟩,
    ⟨.mov (.tmp 17), some 2, none⟩])
  (.ret)) (.skip)))
  (.seq (.seq (.ops [⟨.mov (.tmp 0), some 18, none⟩,
    ⟨.fbin .lss (.tmp 18) (.const (.float .f64 0)), some 19, none⟩])
  (.cond (.tmp 19) (.seq (.ops [⟨.mov (.tmp 0), some 21, none⟩,
    ⟨.un .neg (.tmp 21), some 22, none⟩,
    ⟨.call 155 [.tmp 22], some 23, none⟩,
    ⟨.mov (.tmp 23), some 20, none⟩,
    ⟨.ext (.tmp 20) 0, some 24, none⟩,
    ⟨.ext (.tmp 20) 1, some 25, none⟩,
    ⟨.mov (.tmp 24), some 3, none⟩,
    ⟨.mov (.tmp 25), some 4, none⟩])
  (.seq (.seq (.ops [⟨.mov (.tmp 4), some 26, none⟩,
    ⟨.fbin .neq (.tmp 26) (.const (.float .f64 0)), some 27, none⟩])
  (.cond (.tmp 27) (.ops [⟨.mov (.tmp 3), some 28, none⟩,
    ⟨.fbin .add (.tmp 28) (.const (.float .f64 4607182418800017408)), some 29, none⟩,
    ⟨.mov (.tmp 29), some 3, none⟩]) (.skip)))
  (.seq (.ops [⟨.mov (.tmp 3), some 30, none⟩,
    ⟨.un .neg (.tmp 30), some 31, none⟩,
    ⟨.mov (.tmp 31), some 2, none⟩])
  (.ret)))) (.skip)))
  (.seq (.ops [⟨.mov (.tmp 0), some 33, none⟩,
    ⟨.call 155 [.tmp 33], some 34, none⟩,
    ⟨.mov (.tmp 34), some 32, none⟩,
    ⟨.ext (.tmp 32) 0, some 35, none⟩,
    ⟨.ext (.tmp 32) 1, some 36, none⟩,
    ⟨.mov (.tmp 35), some 5, none⟩,
    ⟨.mov (.tmp 36), some 6, none⟩])
  (.seq (.ops [⟨.mov (.tmp 5), some 37, none⟩,
    ⟨.mov (.tmp 37), some 2, none⟩])
  (.ret)))))⟩
theorem ok_math_floor : cmpF Try.prog Try.f146 = some c_math_floor := by kernel_rfl

/- math.ceil -/
def c_math_ceil : FV := ⟨7, [.tmp 2],
  .seq (.ops [⟨.mov (.const (.float .f64 0)), some 2, none⟩])
  (.seq (.ops [⟨.mov (.tmp 0), some 3, none⟩,
    ⟨.un .neg (.tmp 3), some 4, none⟩,
    ⟨.call 124 [.tmp 4], some 5, none⟩,
    ⟨.un .neg (.tmp 5), some 6, none⟩,
    ⟨.mov (.tmp 6), some 2, none⟩])
  (.ret))⟩
theorem ok_math_ceil : cmpF Try.prog Try.f148 = some c_math_ceil := by kernel_rfl

/- spec.l03Moment -/
def c_spec_l03Moment : FV := ⟨5, [.tmp 2],
  .seq (.ops [⟨.mov (.const (.bool false)), some 2, none⟩])
  (.seq (.ops [⟨.mov (.tmp 0), some 3, none⟩,
    ⟨.call 95 [.tmp 3, .const (.int .i64 1), .const (.int .i64 100000)], some 4, none⟩,
    ⟨.mov (.tmp 4), some 2, none⟩])
  (.ret))⟩
theorem ok_spec_l03Moment : cmpF Try.prog Try.f149 = some c_spec_l03Moment := by kernel_rfl

/- slices.ContainsFunc[[]int64,int64] -/
def c_slices_ContainsFunc___int64_int64 : FV := ⟨9, [.tmp 4],
  .seq (.ops [⟨.mov (.const (.bool false)), some 4, none⟩])
  (.seq (.ops [⟨.mov (.tmp 0), some 5, none⟩,
    ⟨.mov (.tmp 1), some 6, none⟩,
    ⟨.call 156 [.tmp 5, .tmp 6], some 7, none⟩,
    ⟨.bin .geq (.tmp 7) (.const (.int .i64 0)), some 8, none⟩,
    ⟨.mov (.tmp 8), some 4, none⟩])
  (.ret))⟩
theorem ok_slices_ContainsFunc___int64_int64 : cmpF Try.prog Try.f150 = some c_slices_ContainsFunc___int64_int64 := by kernel_rfl

/- impl.momentsFault$1 -/
def c_impl_momentsFault_1 : FV := ⟨6, [.tmp 2],
  .seq (.ops [⟨.mov (.const (.bool false)), some 2, none⟩])
  (.seq (.ops [⟨.mov (.tmp 0), some 3, none⟩,
    ⟨.call 144 [.tmp 3], some 4, none⟩,
    ⟨.un .not (.tmp 4), some 5, none⟩,
    ⟨.mov (.tmp 5), some 2, none⟩])
  (.ret))⟩
theorem ok_impl_momentsFault_1 : cmpF Try.prog Try.f151 = some c_impl_momentsFault_1 := by kernel_rfl

/- slices.IndexFunc[[]impl.Well,impl.Well] -/
def c_slices_IndexFunc___impl_Well_impl_Well : FV := ⟨19, [.tmp 4],
  .seq (.ops [⟨.mov (.const (.int .i64 0)), some 4, none⟩])
  (.seq (.seq (.ops [⟨.mov (.tmp 0), some 6, none⟩,
    ⟨.lenL (.tmp 6), some 7, none⟩,
    ⟨.mov (.const (.int .i64 0)), some 8, none⟩])
  (.block 0 (.loop (.seq (.ops [⟨.bin .lss (.tmp 8) (.tmp 7), some 9, none⟩])
  (.seq (.cond (.tmp 9) (.skip) (.exit 0))
  (.seq (.block 1 (.seq (.ops [⟨.mov (.tmp 8), some 10, none⟩,
    ⟨.mov (.tmp 10), some 5, none⟩])
  (.seq (.ops [⟨.mov (.tmp 1), some 11, none⟩,
    ⟨.mov (.tmp 0), some 12, none⟩,
    ⟨.mov (.tmp 5), some 13, none⟩,
    ⟨.idxS 3 (.tmp 12) (.tmp 13), some 14, none⟩,
    ⟨.load (some 3) (.tmp 14), some 15, none⟩,
    ⟨.callv (.tmp 11) [.tmp 15], some 16, none⟩])
  (.cond (.tmp 16) (.seq (.ops [⟨.mov (.tmp 5), some 17, none⟩,
    ⟨.mov (.tmp 17), some 4, none⟩])
  (.ret)) (.skip)))))
  (.ops [⟨.bin .add (.tmp 8) (.const (.int .i64 1)), some 18, none⟩,
    ⟨.mov (.tmp 18), some 8, none⟩])))))))
  (.seq (.ops [⟨.mov (.const (.int .i64 (-1))), some 4, none⟩])
  (.ret)))⟩
theorem ok_slices_IndexFunc___impl_Well_impl_Well : cmpF Try.prog Try.f152 = some c_slices_IndexFunc___impl_Well_impl_Well := by kernel_rfl

/- math.IsNaN -/
def c_math_IsNaN : FV := ⟨6, [.tmp 2],
  .seq (.ops [⟨.mov (.const (.bool false)), some 2, none⟩])
  (.seq (.ops [⟨.mov (.tmp 0), some 3, none⟩,
    ⟨.mov (.tmp 0), some 4, none⟩,
    ⟨.fbin .neq (.tmp 3) (.tmp 4), some 5, none⟩,
    ⟨.mov (.tmp 5), some 2, none⟩])
  (.ret))⟩
theorem ok_math_IsNaN : cmpF Try.prog Try.f153 = some c_math_IsNaN := by kernel_rfl

/- math.IsInf -/
def c_math_IsInf : FV := ⟨15, [.tmp 4],
  .seq (.ops [⟨.mov (.const (.bool false)), some 4, none⟩])
  (.seq (.seq (.ops [⟨.mov (.tmp 1), some 5, none⟩,
    ⟨.bin .eql (.tmp 5) (.const (.int .i64 0)), some 6, none⟩])
  (.cond (.tmp 6) (.ops [⟨.mov (.tmp 0), some 7, none⟩,
    ⟨.call 157 [.tmp 7], some 8, none⟩,
    ⟨.mov (.tmp 8), some 0, none⟩]) (.seq (.ops [⟨.mov (.tmp 1), some 9, none⟩,
    ⟨.bin .lss (.tmp 9) (.const (.int .i64 0)), some 10, none⟩])
  (.cond (.tmp 10) (.ops [⟨.mov (.tmp 0), some 11, none⟩,
    ⟨.un .neg (.tmp 11), some 12, none⟩,
    ⟨.mov (.tmp 12), some 0, none⟩]) (.skip)))))
  (.seq (.ops [⟨.mov (.tmp 0), some 13, none⟩,
    ⟨.fbin .gtr (.tmp 13) (.const (.float .f64 9218868437227405311)), some 14, none⟩,
    ⟨.mov (.tmp 14), some 4, none⟩])
  (.ret)))⟩
theorem ok_math_IsInf : cmpF Try.prog Try.f154 = some c_math_IsInf := by kernel_rfl

/- math.Modf -/
def c_math_Modf : FV := ⟨11, [.tmp 2, .tmp 3],
  .seq (.ops [⟨.mov (.const (.float .f64 0)), some 2, none⟩,
    ⟨.mov (.const (.float .f64 0)), some 3, none⟩])
  (.seq (.ops [⟨.mov (.tmp 0), some 4, none⟩,
    ⟨.call 158 [.tmp 4], some 5, none⟩,
    ⟨.mov (.tmp 5), some 2, none⟩])
  (.seq (.ops [⟨.mov (.tmp 0), some 6, none⟩,
    ⟨.mov (.tmp 2), some 7, none⟩,
    ⟨.fbin .sub (.tmp 6) (.tmp 7), some 8, none⟩,
    ⟨.mov (.tmp 0), some 9, none⟩,
    ⟨.call 159 [.tmp 8, .tmp 9], some 10, none⟩,
    ⟨.mov (.tmp 10), some 3, none⟩])
  (.ret)))⟩
theorem ok_math_Modf : cmpF Try.prog Try.f155 = some c_math_Modf := by kernel_rfl

end Go.Proofs.Ytainhignhmmhlaa
