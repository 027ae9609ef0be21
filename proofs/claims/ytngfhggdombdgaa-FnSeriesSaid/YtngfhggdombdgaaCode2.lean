/- The code of the Go functions in the generator's own form, printed by a program of mine (gen.py) out of the loaded program; each with the check that it is so. -/
import Derived.Test.YtngfhggdombdgaaVcFn
import Derived.Test.YtngfhggdombdgaaGeo
import Derived.Test.YtngfhggdombdgaaRows
import Derived.KernelRfl
namespace Go.Proofs.Ytngfhggdombdgaa
open Go Go.Fl Go.Vc
set_option linter.all false
set_option maxRecDepth 100000

/- laws.eqWell -/
def c_laws_eqWell : FV := ⟨23, [.tmp 4],
  .seq (.ops [⟨.box 39 (.tmp 0), some 2, none⟩,
    ⟨.box 39 (.tmp 1), some 3, none⟩,
    ⟨.mov (.const (.bool false)), some 4, none⟩])
  (.seq (.seq (.ops [⟨.addr (.tmp 2) 0, some 5, none⟩,
    ⟨.load none (.tmp 5), some 6, none⟩,
    ⟨.addr (.tmp 3) 0, some 7, none⟩,
    ⟨.load none (.tmp 7), some 8, none⟩,
    ⟨.bin .neq (.tmp 6) (.tmp 8), some 9, none⟩])
  (.cond (.tmp 9) (.seq (.ops [⟨.mov (.const (.bool false)), some 4, none⟩])
  (.ret)) (.skip)))
  (.seq (.seq (.ops [⟨.addr (.tmp 2) 1, some 10, none⟩,
    ⟨.load none (.tmp 10), some 11, none⟩,
    ⟨.addr (.tmp 3) 1, some 12, none⟩,
    ⟨.load none (.tmp 12), some 13, none⟩,
    ⟨.bin .neq (.tmp 11) (.tmp 13), some 14, none⟩])
  (.cond (.tmp 14) (.seq (.ops [⟨.mov (.const (.bool false)), some 4, none⟩])
  (.ret)) (.skip)))
  (.seq (.seq (.ops [⟨.addr (.tmp 2) 2, some 15, none⟩,
    ⟨.load none (.tmp 15), some 16, none⟩,
    ⟨.convF .f64 (.tmp 16), some 17, none⟩,
    ⟨.addr (.tmp 3) 2, some 18, none⟩,
    ⟨.load none (.tmp 18), some 19, none⟩,
    ⟨.convF .f64 (.tmp 19), some 20, none⟩,
    ⟨.call 26 [.tmp 17, .tmp 20], some 21, none⟩,
    ⟨.un .not (.tmp 21), some 22, none⟩])
  (.cond (.tmp 22) (.seq (.ops [⟨.mov (.const (.bool false)), some 4, none⟩])
  (.ret)) (.skip)))
  (.seq (.ops [⟨.mov (.const (.bool true)), some 4, none⟩])
  (.ret)))))⟩
theorem ok_laws_eqWell : cmpF Try.prog Try.f38 = some c_laws_eqWell := by kernel_rfl

/- spec.ValidReadings -/
def c_spec_ValidReadings : FV := ⟨5, [.tmp 2],
  .seq (.ops [⟨.mov (.const (.bool false)), some 2, none⟩])
  (.seq (.ops [⟨.mov (.tmp 0), some 3, none⟩,
    ⟨.call 80 [.tmp 3], some 4, none⟩,
    ⟨.mov (.tmp 4), some 2, none⟩])
  (.ret))⟩
theorem ok_spec_ValidReadings : cmpF Try.prog Try.f39 = some c_spec_ValidReadings := by kernel_rfl

/- impl.ValidReadings -/
def c_impl_ValidReadings : FV := ⟨21, [.tmp 2],
  .seq (.ops [⟨.mov (.const (.bool false)), some 2, none⟩])
  (.seq (.ops [⟨.bslice 2 1 0 (#[.int .i64 0]) [], some 6, none⟩,
    ⟨.mov (.tmp 6), some 3, none⟩])
  (.seq (.seq (.ops [⟨.mov (.tmp 0), some 7, none⟩,
    ⟨.lenL (.tmp 7), some 8, none⟩,
    ⟨.mov (.const (.int .i64 0)), some 9, none⟩])
  (.block 0 (.loop (.seq (.ops [⟨.bin .lss (.tmp 9) (.tmp 8), some 10, none⟩])
  (.seq (.cond (.tmp 10) (.skip) (.exit 0))
  (.seq (.block 1 (.seq (.ops [⟨.idxS 2 (.tmp 7) (.tmp 9), some 11, none⟩,
    ⟨.load (some 2) (.tmp 11), some 12, none⟩,
    ⟨.alloc 87 (.agg (#[.int .i64 0, .int .i16 0])), some 5, none⟩,
    ⟨.store 2 (.tmp 5) (.tmp 12), none, none⟩])
  (.ops [⟨.mov (.tmp 3), some 13, none⟩,
    ⟨.addr (.tmp 5) 0, some 14, none⟩,
    ⟨.load none (.tmp 14), some 15, none⟩,
    ⟨.bslice 2 1 1 (#[.int .i64 0]) [(0, .tmp 15)], some 16, none⟩,
    ⟨.app 2 1 (.tmp 13) (.tmp 16), some 17, none⟩,
    ⟨.mov (.tmp 17), some 3, none⟩])))
  (.ops [⟨.bin .add (.tmp 9) (.const (.int .i64 1)), some 18, none⟩,
    ⟨.mov (.tmp 18), some 9, none⟩])))))))
  (.seq (.ops [⟨.mov (.tmp 3), some 19, none⟩,
    ⟨.call 81 [.tmp 19], some 20, none⟩,
    ⟨.mov (.tmp 20), some 2, none⟩])
  (.ret))))⟩
theorem ok_impl_ValidReadings : cmpF Try.prog Try.f40 = some c_impl_ValidReadings := by kernel_rfl

/- laws.szWellS -/
def c_laws_szWellS : FV := ⟨12, [.tmp 4],
  .seq (.ops [⟨.mov (.const (.int .i64 0)), some 4, none⟩])
  (.seq (.ops [⟨.mov (.tmp 1), some 5, none⟩,
    ⟨.mov (.tmp 0), some 6, none⟩,
    ⟨.lenL (.tmp 6), some 7, none⟩,
    ⟨.bin .sub (.tmp 5) (.tmp 7), some 8, none⟩,
    ⟨.mov (.tmp 8), some 1, none⟩])
  (.seq (.seq (.ops [⟨.mov (.tmp 1), some 9, none⟩,
    ⟨.bin .lss (.tmp 9) (.const (.int .i64 0)), some 10, none⟩])
  (.cond (.tmp 10) (.seq (.ops [⟨.mov (.const (.int .i64 (-1))), some 4, none⟩])
  (.ret)) (.skip)))
  (.seq (.ops [⟨.mov (.tmp 1), some 11, none⟩,
    ⟨.mov (.tmp 11), some 4, none⟩])
  (.ret))))⟩
theorem ok_laws_szWellS : cmpF Try.prog Try.f41 = some c_laws_szWellS := by kernel_rfl

/- spec.SameWells -/
def c_spec_SameWells : FV := ⟨55, [.tmp 4],
  .seq (.ops [⟨.mov (.const (.bool false)), some 4, none⟩])
  (.seq (.seq (.ops [⟨.mov (.tmp 0), some 6, none⟩,
    ⟨.lenL (.tmp 6), some 7, none⟩,
    ⟨.mov (.tmp 1), some 8, none⟩,
    ⟨.lenL (.tmp 8), some 9, none⟩,
    ⟨.bin .neq (.tmp 7) (.tmp 9), some 10, none⟩])
  (.cond (.tmp 10) (.seq (.ops [⟨.mov (.const (.bool false)), some 4, none⟩])
  (.ret)) (.skip)))
  (.seq (.seq (.ops [⟨.mov (.const (.int .i64 0)), some 5, none⟩])
  (.block 0 (.loop (.seq (.seq (.ops [⟨.mov (.tmp 5), some 11, none⟩,
    ⟨.mov (.tmp 0), some 12, none⟩,
    ⟨.lenL (.tmp 12), some 13, none⟩,
    ⟨.bin .lss (.tmp 11) (.tmp 13), some 14, none⟩])
  (.cond (.tmp 14) (.skip) (.exit 0)))
  (.seq (.block 1 (.seq (.ops [⟨.mov (.tmp 0), some 17, none⟩,
    ⟨.mov (.tmp 5), some 18, none⟩,
    ⟨.idxS 3 (.tmp 17) (.tmp 18), some 19, none⟩,
    ⟨.addr (.tmp 19) 0, some 20, none⟩,
    ⟨.load none (.tmp 20), some 21, none⟩,
    ⟨.mov (.tmp 1), some 22, none⟩,
    ⟨.mov (.tmp 5), some 23, none⟩,
    ⟨.idxS 3 (.tmp 22) (.tmp 23), some 24, none⟩,
    ⟨.addr (.tmp 24) 0, some 25, none⟩,
    ⟨.load none (.tmp 25), some 26, none⟩,
    ⟨.bin .neq (.tmp 21) (.tmp 26), some 27, none⟩,
    ⟨.mov (.tmp 27), some 28, none⟩,
    ⟨.mov (.tmp 0), some 29, some (28, false)⟩,
    ⟨.mov (.tmp 5), some 30, some (28, false)⟩,
    ⟨.idxS 3 (.tmp 29) (.tmp 30), some 31, some (28, false)⟩,
    ⟨.addr (.tmp 31) 1, some 32, some (28, false)⟩,
    ⟨.load none (.tmp 32), some 33, some (28, false)⟩,
    ⟨.mov (.tmp 1), some 34, some (28, false)⟩,
    ⟨.mov (.tmp 5), some 35, some (28, false)⟩,
    ⟨.idxS 3 (.tmp 34) (.tmp 35), some 36, some (28, false)⟩,
    ⟨.addr (.tmp 36) 1, some 37, some (28, false)⟩,
    ⟨.load none (.tmp 37), some 38, some (28, false)⟩,
    ⟨.bin .neq (.tmp 33) (.tmp 38), some 39, some (28, false)⟩,
    ⟨.pick (.tmp 28) (.const (.bool true)) (.tmp 39), some 40, none⟩,
    ⟨.mov (.tmp 40), some 41, none⟩,
    ⟨.mov (.tmp 0), some 42, some (41, false)⟩,
    ⟨.mov (.tmp 5), some 43, some (41, false)⟩,
    ⟨.idxS 3 (.tmp 42) (.tmp 43), some 44, some (41, false)⟩,
    ⟨.addr (.tmp 44) 2, some 45, some (41, false)⟩,
    ⟨.load none (.tmp 45), some 46, some (41, false)⟩,
    ⟨.mov (.tmp 1), some 47, some (41, false)⟩,
    ⟨.mov (.tmp 5), some 48, some (41, false)⟩,
    ⟨.idxS 3 (.tmp 47) (.tmp 48), some 49, some (41, false)⟩,
    ⟨.addr (.tmp 49) 2, some 50, some (41, false)⟩,
    ⟨.load none (.tmp 50), some 51, some (41, false)⟩,
    ⟨.call 25 [.tmp 46, .tmp 51], some 52, some (41, false)⟩,
    ⟨.un .not (.tmp 52), some 53, some (41, false)⟩,
    ⟨.pick (.tmp 41) (.const (.bool true)) (.tmp 53), some 54, none⟩])
  (.cond (.tmp 54) (.seq (.ops [⟨.mov (.const (.bool false)), some 4, none⟩])
  (.ret)) (.skip))))
  (.ops [⟨.mov (.tmp 5), some 15, none⟩,
    ⟨.bin .add (.tmp 15) (.const (.int .i64 1)), some 16, none⟩,
    ⟨.mov (.tmp 16), some 5, none⟩]))))))
  (.seq (.ops [⟨.mov (.const (.bool true)), some 4, none⟩])
  (.ret))))⟩
theorem ok_spec_SameWells : cmpF Try.prog Try.f42 = some c_spec_SameWells := by kernel_rfl

/- laws.toWellS -/
def c_laws_toWellS : FV := ⟨23, [.tmp 2],
  .seq (.ops [⟨.mov (.const (.slice none 0 0)), some 2, none⟩])
  (.seq (.ops [⟨.mov (.tmp 0), some 5, none⟩,
    ⟨.lenL (.tmp 5), some 6, none⟩,
    ⟨.mks 39 3 (#[.int .i8 0, .int .i8 0, .float .f32 0]) (.tmp 6) (.tmp 6), some 7, none⟩,
    ⟨.mov (.tmp 7), some 3, none⟩])
  (.seq (.seq (.ops [⟨.mov (.const (.int .i64 0)), some 4, none⟩])
  (.block 0 (.loop (.seq (.seq (.ops [⟨.mov (.tmp 4), some 8, none⟩,
    ⟨.mov (.tmp 0), some 9, none⟩,
    ⟨.lenL (.tmp 9), some 10, none⟩,
    ⟨.bin .lss (.tmp 8) (.tmp 10), some 11, none⟩])
  (.cond (.tmp 11) (.skip) (.exit 0)))
  (.seq (.block 1 (.ops [⟨.mov (.tmp 3), some 14, none⟩,
    ⟨.mov (.tmp 4), some 15, none⟩,
    ⟨.mov (.tmp 0), some 16, none⟩,
    ⟨.mov (.tmp 4), some 17, none⟩,
    ⟨.idxS 3 (.tmp 16) (.tmp 17), some 18, none⟩,
    ⟨.load (some 3) (.tmp 18), some 19, none⟩,
    ⟨.call 36 [.tmp 19], some 20, none⟩,
    ⟨.idxS 3 (.tmp 14) (.tmp 15), some 21, none⟩,
    ⟨.store 3 (.tmp 21) (.tmp 20), none, none⟩]))
  (.ops [⟨.mov (.tmp 4), some 12, none⟩,
    ⟨.bin .add (.tmp 12) (.const (.int .i64 1)), some 13, none⟩,
    ⟨.mov (.tmp 13), some 4, none⟩]))))))
  (.seq (.ops [⟨.mov (.tmp 3), some 22, none⟩,
    ⟨.mov (.tmp 22), some 2, none⟩])
  (.ret))))⟩
theorem ok_laws_toWellS : cmpF Try.prog Try.f43 = some c_laws_toWellS := by kernel_rfl

/- impl.SameWells -/
def c_impl_SameWells : FV := ⟨8, [.tmp 4],
  .seq (.ops [⟨.mov (.const (.bool false)), some 4, none⟩])
  (.seq (.ops [⟨.mov (.tmp 0), some 5, none⟩,
    ⟨.mov (.tmp 1), some 6, none⟩,
    ⟨.call 82 [.tmp 5, .tmp 6, .func 83], some 7, none⟩,
    ⟨.mov (.tmp 7), some 4, none⟩])
  (.ret))⟩
theorem ok_impl_SameWells : cmpF Try.prog Try.f44 = some c_impl_SameWells := by kernel_rfl

/- laws.eqWellS -/
def c_laws_eqWellS : FV := ⟨27, [.tmp 4],
  .seq (.ops [⟨.mov (.const (.bool false)), some 4, none⟩])
  (.seq (.seq (.ops [⟨.mov (.tmp 0), some 6, none⟩,
    ⟨.lenL (.tmp 6), some 7, none⟩,
    ⟨.mov (.tmp 1), some 8, none⟩,
    ⟨.lenL (.tmp 8), some 9, none⟩,
    ⟨.bin .neq (.tmp 7) (.tmp 9), some 10, none⟩])
  (.cond (.tmp 10) (.seq (.ops [⟨.mov (.const (.bool false)), some 4, none⟩])
  (.ret)) (.skip)))
  (.seq (.seq (.ops [⟨.mov (.const (.int .i64 0)), some 5, none⟩])
  (.block 0 (.loop (.seq (.seq (.ops [⟨.mov (.tmp 5), some 11, none⟩,
    ⟨.mov (.tmp 0), some 12, none⟩,
    ⟨.lenL (.tmp 12), some 13, none⟩,
    ⟨.bin .lss (.tmp 11) (.tmp 13), some 14, none⟩])
  (.cond (.tmp 14) (.skip) (.exit 0)))
  (.seq (.block 1 (.seq (.ops [⟨.mov (.tmp 0), some 17, none⟩,
    ⟨.mov (.tmp 5), some 18, none⟩,
    ⟨.idxS 3 (.tmp 17) (.tmp 18), some 19, none⟩,
    ⟨.load (some 3) (.tmp 19), some 20, none⟩,
    ⟨.mov (.tmp 1), some 21, none⟩,
    ⟨.mov (.tmp 5), some 22, none⟩,
    ⟨.idxS 3 (.tmp 21) (.tmp 22), some 23, none⟩,
    ⟨.load (some 3) (.tmp 23), some 24, none⟩,
    ⟨.call 38 [.tmp 20, .tmp 24], some 25, none⟩,
    ⟨.un .not (.tmp 25), some 26, none⟩])
  (.cond (.tmp 26) (.seq (.ops [⟨.mov (.const (.bool false)), some 4, none⟩])
  (.ret)) (.skip))))
  (.ops [⟨.mov (.tmp 5), some 15, none⟩,
    ⟨.bin .add (.tmp 15) (.const (.int .i64 1)), some 16, none⟩,
    ⟨.mov (.tmp 16), some 5, none⟩]))))))
  (.seq (.ops [⟨.mov (.const (.bool true)), some 4, none⟩])
  (.ret))))⟩
theorem ok_laws_eqWellS : cmpF Try.prog Try.f45 = some c_laws_eqWellS := by kernel_rfl

/- spec.TiesIn -/
def c_spec_TiesIn : FV := ⟨30, [.tmp 2, .tmp 3],
  .seq (.ops [⟨.mov (.const (.int .i64 0)), some 2, none⟩,
    ⟨.mov (.const (.int .i64 0)), some 3, none⟩])
  (.seq (.seq (.ops [⟨.mov (.tmp 0), some 6, none⟩,
    ⟨.call 80 [.tmp 6], some 7, none⟩,
    ⟨.un .not (.tmp 7), some 8, none⟩])
  (.cond (.tmp 8) (.seq (.ops [⟨.mov (.const (.int .i64 0)), some 2, none⟩,
    ⟨.mov (.const (.int .i64 1)), some 3, none⟩])
  (.ret)) (.skip)))
  (.seq (.ops [⟨.mov (.const (.int .i64 0)), some 4, none⟩])
  (.seq (.seq (.ops [⟨.mov (.const (.int .i64 1)), some 5, none⟩])
  (.block 0 (.loop (.seq (.seq (.ops [⟨.mov (.tmp 5), some 9, none⟩,
    ⟨.mov (.tmp 0), some 10, none⟩,
    ⟨.lenL (.tmp 10), some 11, none⟩,
    ⟨.bin .lss (.tmp 9) (.tmp 11), some 12, none⟩])
  (.cond (.tmp 12) (.skip) (.exit 0)))
  (.seq (.block 1 (.seq (.ops [⟨.mov (.tmp 0), some 15, none⟩,
    ⟨.mov (.tmp 5), some 16, none⟩,
    ⟨.idxS 2 (.tmp 15) (.tmp 16), some 17, none⟩,
    ⟨.addr (.tmp 17) 1, some 18, none⟩,
    ⟨.load none (.tmp 18), some 19, none⟩,
    ⟨.mov (.tmp 0), some 20, none⟩,
    ⟨.mov (.tmp 5), some 21, none⟩,
    ⟨.bin .sub (.tmp 21) (.const (.int .i64 1)), some 22, none⟩,
    ⟨.idxS 2 (.tmp 20) (.tmp 22), some 23, none⟩,
    ⟨.addr (.tmp 23) 1, some 24, none⟩,
    ⟨.load none (.tmp 24), some 25, none⟩,
    ⟨.bin .eql (.tmp 19) (.tmp 25), some 26, none⟩])
  (.cond (.tmp 26) (.ops [⟨.mov (.tmp 4), some 27, none⟩,
    ⟨.bin .add (.tmp 27) (.const (.int .i64 1)), some 28, none⟩,
    ⟨.mov (.tmp 28), some 4, none⟩]) (.skip))))
  (.ops [⟨.mov (.tmp 5), some 13, none⟩,
    ⟨.bin .add (.tmp 13) (.const (.int .i64 1)), some 14, none⟩,
    ⟨.mov (.tmp 14), some 5, none⟩]))))))
  (.seq (.ops [⟨.mov (.tmp 4), some 29, none⟩,
    ⟨.mov (.tmp 29), some 2, none⟩,
    ⟨.mov (.const (.int .i64 0)), some 3, none⟩])
  (.ret)))))⟩
theorem ok_spec_TiesIn : cmpF Try.prog Try.f46 = some c_spec_TiesIn := by kernel_rfl

/- impl.TiesIn -/
def c_impl_TiesIn : FV := ⟨30, [.tmp 2, .tmp 3],
  .seq (.ops [⟨.mov (.const (.int .i64 0)), some 2, none⟩,
    ⟨.mov (.const (.int .i64 0)), some 3, none⟩])
  (.seq (.seq (.ops [⟨.mov (.tmp 0), some 6, none⟩,
    ⟨.call 40 [.tmp 6], some 7, none⟩,
    ⟨.un .not (.tmp 7), some 8, none⟩])
  (.cond (.tmp 8) (.seq (.ops [⟨.mov (.const (.int .i64 0)), some 2, none⟩,
    ⟨.mov (.const (.int .i64 1)), some 3, none⟩])
  (.ret)) (.skip)))
  (.seq (.ops [⟨.mov (.const (.int .i64 0)), some 4, none⟩])
  (.seq (.seq (.ops [⟨.mov (.const (.int .i64 1)), some 5, none⟩])
  (.block 0 (.loop (.seq (.seq (.ops [⟨.mov (.tmp 5), some 9, none⟩,
    ⟨.mov (.tmp 0), some 10, none⟩,
    ⟨.lenL (.tmp 10), some 11, none⟩,
    ⟨.bin .lss (.tmp 9) (.tmp 11), some 12, none⟩])
  (.cond (.tmp 12) (.skip) (.exit 0)))
  (.seq (.block 1 (.seq (.ops [⟨.mov (.tmp 0), some 15, none⟩,
    ⟨.mov (.tmp 5), some 16, none⟩,
    ⟨.idxS 2 (.tmp 15) (.tmp 16), some 17, none⟩,
    ⟨.addr (.tmp 17) 1, some 18, none⟩,
    ⟨.load none (.tmp 18), some 19, none⟩,
    ⟨.mov (.tmp 0), some 20, none⟩,
    ⟨.mov (.tmp 5), some 21, none⟩,
    ⟨.bin .sub (.tmp 21) (.const (.int .i64 1)), some 22, none⟩,
    ⟨.idxS 2 (.tmp 20) (.tmp 22), some 23, none⟩,
    ⟨.addr (.tmp 23) 1, some 24, none⟩,
    ⟨.load none (.tmp 24), some 25, none⟩,
    ⟨.bin .eql (.tmp 19) (.tmp 25), some 26, none⟩])
  (.cond (.tmp 26) (.ops [⟨.mov (.tmp 4), some 27, none⟩,
    ⟨.bin .add (.tmp 27) (.const (.int .i64 1)), some 28, none⟩,
    ⟨.mov (.tmp 28), some 4, none⟩]) (.skip))))
  (.ops [⟨.mov (.tmp 5), some 13, none⟩,
    ⟨.bin .add (.tmp 13) (.const (.int .i64 1)), some 14, none⟩,
    ⟨.mov (.tmp 14), some 5, none⟩]))))))
  (.seq (.ops [⟨.mov (.tmp 4), some 29, none⟩,
    ⟨.mov (.tmp 29), some 2, none⟩,
    ⟨.mov (.const (.int .i64 0)), some 3, none⟩])
  (.ret)))))⟩
theorem ok_impl_TiesIn : cmpF Try.prog Try.f47 = some c_impl_TiesIn := by kernel_rfl

/- spec.LoggerOf -/
def c_spec_LoggerOf : FV := ⟨5, [.tmp 2],
  .seq (.ops [⟨.mov (.const (.int .i16 0)), some 2, none⟩])
  (.seq (.ops [⟨.mov (.tmp 0), some 3, none⟩,
    ⟨.call 85 [.tmp 3], some 4, none⟩,
    ⟨.mov (.tmp 4), some 2, none⟩])
  (.ret))⟩
theorem ok_spec_LoggerOf : cmpF Try.prog Try.f48 = some c_spec_LoggerOf := by kernel_rfl

/- impl.LoggerOf -/
def c_impl_LoggerOf : FV := ⟨34, [.tmp 2],
  .seq (.ops [⟨.mov (.const (.int .i16 0)), some 2, none⟩])
  (.seq (.ops [⟨.mov (.tmp 0), some 4, none⟩,
    ⟨.fbin .mul (.tmp 4) (.const (.float .f32 1098907648)), some 5, none⟩,
    ⟨.mov (.tmp 5), some 3, none⟩])
  (.seq (.block 0 (.seq (.ops [⟨.mov (.tmp 3), some 7, none⟩,
    ⟨.call 86 [.tmp 7], some 8, none⟩,
    ⟨.mov (.tmp 8), some 6, none⟩])
  (.cond (.tmp 6) (.seq (.ops [⟨.mov (.const (.int .i16 0)), some 2, none⟩])
  (.ret)) (.seq (.ops [⟨.mov (.tmp 3), some 10, none⟩,
    ⟨.fbin .geq (.tmp 10) (.const (.float .f32 0)), some 11, none⟩,
    ⟨.mov (.tmp 11), some 12, none⟩,
    ⟨.mov (.tmp 3), some 13, some (12, true)⟩,
    ⟨.fbin .add (.tmp 13) (.const (.float .f32 1056964608)), some 14, some (12, true)⟩,
    ⟨.fbin .geq (.tmp 14) (.const (.float .f32 1191181824)), some 15, some (12, true)⟩,
    ⟨.pick (.tmp 12) (.tmp 15) (.const (.bool false)), some 16, none⟩,
    ⟨.mov (.tmp 16), some 9, none⟩])
  (.cond (.tmp 9) (.seq (.ops [⟨.mov (.const (.int .i16 32767)), some 2, none⟩])
  (.ret)) (.seq (.ops [⟨.mov (.tmp 3), some 18, none⟩,
    ⟨.fbin .geq (.tmp 18) (.const (.float .f32 0)), some 19, none⟩,
    ⟨.mov (.tmp 19), some 17, none⟩])
  (.cond (.tmp 17) (.seq (.ops [⟨.mov (.tmp 3), some 20, none⟩,
    ⟨.fbin .add (.tmp 20) (.const (.float .f32 1056964608)), some 21, none⟩,
    ⟨.convF .f64 (.tmp 21), some 22, none⟩,
    ⟨.call 87 [.tmp 22], some 23, none⟩,
    ⟨.convI .i16 (.tmp 23), some 24, none⟩,
    ⟨.mov (.tmp 24), some 2, none⟩])
  (.ret)) (.seq (.ops [⟨.mov (.tmp 3), some 26, none⟩,
    ⟨.fbin .sub (.tmp 26) (.const (.float .f32 1056964608)), some 27, none⟩,
    ⟨.fbin .leq (.tmp 27) (.const (.float .f32 3338665984)), some 28, none⟩,
    ⟨.mov (.tmp 28), some 25, none⟩])
  (.cond (.tmp 25) (.seq (.ops [⟨.mov (.const (.int .i16 (-32768))), some 2, none⟩])
  (.ret)) (.skip))))))))))
  (.seq (.ops [⟨.mov (.tmp 3), some 29, none⟩,
    ⟨.fbin .sub (.tmp 29) (.const (.float .f32 1056964608)), some 30, none⟩,
    ⟨.convF .f64 (.tmp 30), some 31, none⟩,
    ⟨.call 88 [.tmp 31], some 32, none⟩,
    ⟨.convI .i16 (.tmp 32), some 33, none⟩,
    ⟨.mov (.tmp 33), some 2, none⟩])
  (.ret))))⟩
theorem ok_impl_LoggerOf : cmpF Try.prog Try.f49 = some c_impl_LoggerOf := by kernel_rfl

/- spec.ArgumentAt -/
def c_spec_ArgumentAt : FV := ⟨29, [.tmp 10, .tmp 11],
  .seq (.ops [⟨.box 70 (.tmp 0), some 5, none⟩,
    ⟨.box 39 (.tmp 1), some 6, none⟩,
    ⟨.mov (.const (.float .f32 0)), some 10, none⟩,
    ⟨.mov (.const (.int .i64 0)), some 11, none⟩])
  (.seq (.seq (.ops [⟨.load (some 2) (.tmp 5), some 13, none⟩,
    ⟨.load (some 3) (.tmp 6), some 14, none⟩,
    ⟨.bslice 39 3 1 (#[.int .i8 0, .int .i8 0, .float .f32 0]) [(0, .tmp 14)], some 15, none⟩,
    ⟨.mov (.tmp 2), some 16, none⟩,
    ⟨.mov (.tmp 3), some 17, none⟩,
    ⟨.mov (.tmp 4), some 18, none⟩,
    ⟨.call 89 [.tmp 13, .tmp 15, .tmp 16, .tmp 17, .tmp 18], some 19, none⟩,
    ⟨.mov (.tmp 19), some 12, none⟩])
  (.seq (.ops [⟨.mov (.tmp 12), some 20, none⟩,
    ⟨.bin .neq (.tmp 20) (.const (.int .i64 0)), some 21, none⟩])
  (.cond (.tmp 21) (.seq (.ops [⟨.mov (.tmp 12), some 22, none⟩,
    ⟨.mov (.const (.float .f32 0)), some 10, none⟩,
    ⟨.mov (.tmp 22), some 11, none⟩])
  (.ret)) (.skip))))
  (.seq (.ops [⟨.load (some 2) (.tmp 5), some 23, none⟩,
    ⟨.load (some 3) (.tmp 6), some 24, none⟩,
    ⟨.mov (.tmp 2), some 25, none⟩,
    ⟨.mov (.tmp 3), some 26, none⟩,
    ⟨.mov (.tmp 4), some 27, none⟩,
    ⟨.call 90 [.tmp 23, .tmp 24, .tmp 25, .tmp 26, .tmp 27], some 28, none⟩,
    ⟨.mov (.tmp 28), some 10, none⟩,
    ⟨.mov (.const (.int .i64 0)), some 11, none⟩])
  (.ret)))⟩
theorem ok_spec_ArgumentAt : cmpF Try.prog Try.f50 = some c_spec_ArgumentAt := by kernel_rfl

/- laws.toAquifer -/
def c_laws_toAquifer : FV := ⟨11, [.cell 2 (some 2)],
  .seq (.ops [⟨.box 68 (.tmp 0), some 1, none⟩,
    ⟨.alloc 70 (.agg (#[.float .f32 0, .float .f32 0])), some 2, none⟩])
  (.seq (.ops [⟨.alloc 70 (.agg (#[.float .f32 0, .float .f32 0])), some 3, none⟩])
  (.seq (.ops [⟨.addr (.tmp 1) 0, some 4, none⟩,
    ⟨.load none (.tmp 4), some 5, none⟩,
    ⟨.addr (.tmp 3) 0, some 6, none⟩,
    ⟨.store 1 (.tmp 6) (.tmp 5), none, none⟩])
  (.seq (.ops [⟨.addr (.tmp 1) 1, some 7, none⟩,
    ⟨.load none (.tmp 7), some 8, none⟩,
    ⟨.addr (.tmp 3) 1, some 9, none⟩,
    ⟨.store 1 (.tmp 9) (.tmp 8), none, none⟩])
  (.seq (.ops [⟨.load (some 2) (.tmp 3), some 10, none⟩,
    ⟨.store 2 (.tmp 2) (.tmp 10), none, none⟩])
  (.ret)))))⟩
theorem ok_laws_toAquifer : cmpF Try.prog Try.f51 = some c_laws_toAquifer := by kernel_rfl

/- impl.ArgumentAt -/
def c_impl_ArgumentAt : FV := ⟨30, [.tmp 10, .tmp 11],
  .seq (.ops [⟨.box 70 (.tmp 0), some 5, none⟩,
    ⟨.box 39 (.tmp 1), some 6, none⟩,
    ⟨.mov (.const (.float .f32 0)), some 10, none⟩,
    ⟨.mov (.const (.int .i64 0)), some 11, none⟩])
  (.seq (.seq (.ops [⟨.load (some 2) (.tmp 5), some 13, none⟩,
    ⟨.load (some 3) (.tmp 6), some 14, none⟩,
    ⟨.bslice 39 3 1 (#[.int .i8 0, .int .i8 0, .float .f32 0]) [(0, .tmp 14)], some 15, none⟩,
    ⟨.mov (.tmp 2), some 16, none⟩,
    ⟨.mov (.tmp 3), some 17, none⟩,
    ⟨.mov (.tmp 4), some 18, none⟩,
    ⟨.bslice 2 1 1 (#[.int .i64 0]) [(0, .tmp 18)], some 19, none⟩,
    ⟨.call 91 [.tmp 13, .tmp 15, .tmp 16, .tmp 17, .tmp 19], some 20, none⟩,
    ⟨.mov (.tmp 20), some 12, none⟩])
  (.seq (.ops [⟨.mov (.tmp 12), some 21, none⟩,
    ⟨.bin .neq (.tmp 21) (.const (.int .i64 0)), some 22, none⟩])
  (.cond (.tmp 22) (.seq (.ops [⟨.mov (.tmp 12), some 23, none⟩,
    ⟨.mov (.const (.float .f32 0)), some 10, none⟩,
    ⟨.mov (.tmp 23), some 11, none⟩])
  (.ret)) (.skip))))
  (.seq (.ops [⟨.load (some 2) (.tmp 5), some 24, none⟩,
    ⟨.load (some 3) (.tmp 6), some 25, none⟩,
    ⟨.mov (.tmp 2), some 26, none⟩,
    ⟨.mov (.tmp 3), some 27, none⟩,
    ⟨.mov (.tmp 4), some 28, none⟩,
    ⟨.call 92 [.tmp 24, .tmp 25, .tmp 26, .tmp 27, .tmp 28], some 29, none⟩,
    ⟨.mov (.tmp 29), some 10, none⟩,
    ⟨.mov (.const (.int .i64 0)), some 11, none⟩])
  (.ret)))⟩
theorem ok_impl_ArgumentAt : cmpF Try.prog Try.f52 = some c_impl_ArgumentAt := by kernel_rfl

/- spec.WithImages -/
def c_spec_WithImages : FV := ⟨58, [.tmp 6, .tmp 7],
  .seq (.ops [⟨.mov (.const (.slice none 0 0)), some 6, none⟩,
    ⟨.mov (.const (.int .i64 0)), some 7, none⟩])
  (.seq (.seq (.ops [⟨.mov (.const (.int .i64 0)), some 8, none⟩])
  (.block 0 (.loop (.seq (.seq (.ops [⟨.mov (.tmp 8), some 13, none⟩,
    ⟨.mov (.tmp 0), some 14, none⟩,
    ⟨.lenL (.tmp 14), some 15, none⟩,
    ⟨.bin .lss (.tmp 13) (.tmp 15), some 16, none⟩])
  (.cond (.tmp 16) (.skip) (.exit 0)))
  (.seq (.block 1 (.seq (.ops [⟨.mov (.tmp 0), some 19, none⟩,
    ⟨.mov (.tmp 8), some 20, none⟩,
    ⟨.idxS 3 (.tmp 19) (.tmp 20), some 21, none⟩,
    ⟨.load (some 3) (.tmp 21), some 22, none⟩,
    ⟨.call 74 [.tmp 22], some 23, none⟩,
    ⟨.un .not (.tmp 23), some 24, none⟩])
  (.cond (.tmp 24) (.seq (.ops [⟨.bslice 39 3 0 (#[.int .i8 0, .int .i8 0, .float .f32 0]) [], some 25, none⟩,
    ⟨.mov (.tmp 25), some 6, none⟩,
    ⟨.mov (.const (.int .i64 1)), some 7, none⟩])
  (.ret)) (.skip))))
  (.ops [⟨.mov (.tmp 8), some 17, none⟩,
    ⟨.bin .add (.tmp 17) (.const (.int .i64 1)), some 18, none⟩,
    ⟨.mov (.tmp 18), some 8, none⟩]))))))
  (.seq (.seq (.ops [⟨.mov (.tmp 0), some 26, none⟩,
    ⟨.lenL (.tmp 26), some 27, none⟩,
    ⟨.bin .gtr (.tmp 27) (.const (.int .i64 6)), some 28, none⟩])
  (.cond (.tmp 28) (.seq (.ops [⟨.bslice 39 3 0 (#[.int .i8 0, .int .i8 0, .float .f32 0]) [], some 29, none⟩,
    ⟨.mov (.tmp 29), some 6, none⟩,
    ⟨.mov (.const (.int .i64 3)), some 7, none⟩])
  (.ret)) (.skip)))
  (.seq (.ops [⟨.bslice 39 3 0 (#[.int .i8 0, .int .i8 0, .float .f32 0]) [], some 30, none⟩,
    ⟨.mov (.tmp 0), some 31, none⟩,
    ⟨.app 39 3 (.tmp 30) (.tmp 31), some 32, none⟩,
    ⟨.mov (.tmp 32), some 9, none⟩])
  (.seq (.seq (.ops [⟨.mov (.const (.int .i64 0)), some 10, none⟩])
  (.block 2 (.loop (.seq (.seq (.ops [⟨.mov (.tmp 10), some 33, none⟩,
    ⟨.mov (.tmp 0), some 34, none⟩,
    ⟨.lenL (.tmp 34), some 35, none⟩,
    ⟨.bin .lss (.tmp 33) (.tmp 35), some 36, none⟩])
  (.cond (.tmp 36) (.skip) (.exit 2)))
  (.seq (.block 3 (.seq (.ops [⟨.mov (.tmp 0), some 40, none⟩,
    ⟨.mov (.tmp 10), some 41, none⟩,
    ⟨.idxS 3 (.tmp 40) (.tmp 41), some 42, none⟩,
    ⟨.load (some 3) (.tmp 42), some 43, none⟩,
    ⟨.mov (.tmp 1), some 44, none⟩,
    ⟨.mov (.tmp 2), some 45, none⟩,
    ⟨.call 35 [.tmp 43, .tmp 44, .tmp 45], some 46, none⟩,
    ⟨.mov (.tmp 46), some 39, none⟩,
    ⟨.ext (.tmp 39) 0, some 47, none⟩,
    ⟨.ext (.tmp 39) 1, some 48, none⟩,
    ⟨.alloc 39 (.agg (#[.int .i8 0, .int .i8 0, .float .f32 0])), some 11, none⟩,
    ⟨.store 3 (.tmp 11) (.tmp 47), none, none⟩,
    ⟨.mov (.tmp 48), some 12, none⟩])
  (.seq (.seq (.ops [⟨.mov (.tmp 12), some 49, none⟩,
    ⟨.bin .neq (.tmp 49) (.const (.int .i64 0)), some 50, none⟩])
  (.cond (.tmp 50) (.seq (.ops [⟨.bslice 39 3 0 (#[.int .i8 0, .int .i8 0, .float .f32 0]) [], some 51, none⟩,
    ⟨.mov (.tmp 12), some 52, none⟩,
    ⟨.mov (.tmp 51), some 6, none⟩,
    ⟨.mov (.tmp 52), some 7, none⟩])
  (.ret)) (.skip)))
  (.ops [⟨.mov (.tmp 9), some 53, none⟩,
    ⟨.load (some 3) (.tmp 11), some 54, none⟩,
    ⟨.bslice 39 3 1 (#[.int .i8 0, .int .i8 0, .float .f32 0]) [(0, .tmp 54)], some 55, none⟩,
    ⟨.app 39 3 (.tmp 53) (.tmp 55), some 56, none⟩,
    ⟨.mov (.tmp 56), some 9, none⟩]))))
  (.ops [⟨.mov (.tmp 10), some 37, none⟩,
    ⟨.bin .add (.tmp 37) (.const (.int .i64 1)), some 38, none⟩,
    ⟨.mov (.tmp 38), some 10, none⟩]))))))
  (.seq (.ops [⟨.mov (.tmp 9), some 57, none⟩,
    ⟨.mov (.tmp 57), some 6, none⟩,
    ⟨.mov (.const (.int .i64 0)), some 7, none⟩])
  (.ret))))))⟩
theorem ok_spec_WithImages : cmpF Try.prog Try.f53 = some c_spec_WithImages := by kernel_rfl

/- impl.WithImages -/
def c_impl_WithImages : FV := ⟨45, [.tmp 6, .tmp 7],
  .seq (.ops [⟨.mov (.const (.slice none 0 0)), some 6, none⟩,
    ⟨.mov (.const (.int .i64 0)), some 7, none⟩])
  (.seq (.block 0 (.seq (.ops [⟨.mov (.tmp 0), some 14, none⟩,
    ⟨.call 93 [.tmp 14, .func 94], some 15, none⟩,
    ⟨.mov (.tmp 15), some 13, none⟩])
  (.cond (.tmp 13) (.seq (.ops [⟨.mov (.const (.slice none 0 0)), some 6, none⟩,
    ⟨.mov (.const (.int .i64 1)), some 7, none⟩])
  (.ret)) (.seq (.ops [⟨.mov (.tmp 0), some 17, none⟩,
    ⟨.lenL (.tmp 17), some 18, none⟩,
    ⟨.bin .mul (.const (.int .i64 2)) (.tmp 18), some 19, none⟩,
    ⟨.bin .gtr (.tmp 19) (.const (.int .i64 12)), some 20, none⟩,
    ⟨.mov (.tmp 20), some 16, none⟩])
  (.cond (.tmp 16) (.seq (.ops [⟨.mov (.const (.slice none 0 0)), some 6, none⟩,
    ⟨.mov (.const (.int .i64 3)), some 7, none⟩])
  (.ret)) (.skip))))))
  (.seq (.ops [⟨.mov (.tmp 0), some 21, none⟩,
    ⟨.call 95 [.tmp 21], some 22, none⟩,
    ⟨.mov (.tmp 22), some 8, none⟩])
  (.seq (.seq (.ops [⟨.mov (.tmp 0), some 23, none⟩,
    ⟨.lenL (.tmp 23), some 24, none⟩,
    ⟨.mov (.const (.int .i64 0)), some 25, none⟩])
  (.block 1 (.loop (.seq (.ops [⟨.bin .lss (.tmp 25) (.tmp 24), some 26, none⟩])
  (.seq (.cond (.tmp 26) (.skip) (.exit 1))
  (.seq (.block 2 (.seq (.ops [⟨.idxS 3 (.tmp 23) (.tmp 25), some 27, none⟩,
    ⟨.load (some 3) (.tmp 27), some 28, none⟩,
    ⟨.alloc 39 (.agg (#[.int .i8 0, .int .i8 0, .float .f32 0])), some 10, none⟩,
    ⟨.store 3 (.tmp 10) (.tmp 28), none, none⟩])
  (.seq (.ops [⟨.load (some 3) (.tmp 10), some 30, none⟩,
    ⟨.mov (.tmp 1), some 31, none⟩,
    ⟨.mov (.tmp 2), some 32, none⟩,
    ⟨.call 37 [.tmp 30, .tmp 31, .tmp 32], some 33, none⟩,
    ⟨.mov (.tmp 33), some 29, none⟩,
    ⟨.ext (.tmp 29) 0, some 34, none⟩,
    ⟨.ext (.tmp 29) 1, some 35, none⟩,
    ⟨.alloc 39 (.agg (#[.int .i8 0, .int .i8 0, .float .f32 0])), some 11, none⟩,
    ⟨.store 3 (.tmp 11) (.tmp 34), none, none⟩,
    ⟨.mov (.tmp 35), some 12, none⟩])
  (.seq (.seq (.ops [⟨.mov (.tmp 12), some 36, none⟩,
    ⟨.bin .neq (.tmp 36) (.const (.int .i64 0)), some 37, none⟩])
  (.cond (.tmp 37) (.seq (.ops [⟨.mov (.tmp 12), some 38, none⟩,
    ⟨.mov (.const (.slice none 0 0)), some 6, none⟩,
    ⟨.mov (.tmp 38), some 7, none⟩])
  (.ret)) (.skip)))
  (.ops [⟨.mov (.tmp 8), some 39, none⟩,
    ⟨.load (some 3) (.tmp 11), some 40, none⟩,
    ⟨.bslice 39 3 1 (#[.int .i8 0, .int .i8 0, .float .f32 0]) [(0, .tmp 40)], some 41, none⟩,
    ⟨.app 39 3 (.tmp 39) (.tmp 41), some 42, none⟩,
    ⟨.mov (.tmp 42), some 8, none⟩])))))
  (.ops [⟨.bin .add (.tmp 25) (.const (.int .i64 1)), some 43, none⟩,
    ⟨.mov (.tmp 43), some 25, none⟩])))))))
  (.seq (.ops [⟨.mov (.tmp 8), some 44, none⟩,
    ⟨.mov (.tmp 44), some 6, none⟩,
    ⟨.mov (.const (.int .i64 0)), some 7, none⟩])
  (.ret)))))⟩
theorem ok_impl_WithImages : cmpF Try.prog Try.f54 = some c_impl_WithImages := by kernel_rfl

/- laws.markWellS -/
def c_laws_markWellS : FV := ⟨37, [.tmp 4],
  .seq (.ops [⟨.mov (.const (.int .i64 0)), some 4, none⟩])
  (.seq (.seq (.ops [⟨.mov (.const (.int .i64 0)), some 5, none⟩])
  (.block 0 (.loop (.seq (.seq (.ops [⟨.mov (.tmp 5), some 6, none⟩,
    ⟨.mov (.tmp 0), some 7, none⟩,
    ⟨.lenL (.tmp 7), some 8, none⟩,
    ⟨.bin .lss (.tmp 6) (.tmp 8), some 9, none⟩])
  (.cond (.tmp 9) (.skip) (.exit 0)))
  (.seq (.block 1 (.seq (.ops [⟨.mov (.tmp 0), some 12, none⟩,
    ⟨.mov (.tmp 5), some 13, none⟩,
    ⟨.mov (.tmp 1), some 14, none⟩,
    ⟨.convI .i8 (.tmp 14), some 15, none⟩,
    ⟨.idxS 3 (.tmp 12) (.tmp 13), some 16, none⟩,
    ⟨.addr (.tmp 16) 0, some 17, none⟩,
    ⟨.store 1 (.tmp 17) (.tmp 15), none, none⟩])
  (.seq (.ops [⟨.mov (.tmp 1), some 18, none⟩,
    ⟨.bin .add (.tmp 18) (.const (.int .i64 1)), some 19, none⟩,
    ⟨.mov (.tmp 19), some 1, none⟩])
  (.seq (.ops [⟨.mov (.tmp 0), some 20, none⟩,
    ⟨.mov (.tmp 5), some 21, none⟩,
    ⟨.mov (.tmp 1), some 22, none⟩,
    ⟨.convI .i8 (.tmp 22), some 23, none⟩,
    ⟨.idxS 3 (.tmp 20) (.tmp 21), some 24, none⟩,
    ⟨.addr (.tmp 24) 1, some 25, none⟩,
    ⟨.store 1 (.tmp 25) (.tmp 23), none, none⟩])
  (.seq (.ops [⟨.mov (.tmp 1), some 26, none⟩,
    ⟨.bin .add (.tmp 26) (.const (.int .i64 1)), some 27, none⟩,
    ⟨.mov (.tmp 27), some 1, none⟩])
  (.seq (.ops [⟨.mov (.tmp 0), some 28, none⟩,
    ⟨.mov (.tmp 5), some 29, none⟩,
    ⟨.mov (.tmp 1), some 30, none⟩,
    ⟨.convF .f32 (.tmp 30), some 31, none⟩,
    ⟨.idxS 3 (.tmp 28) (.tmp 29), some 32, none⟩,
    ⟨.addr (.tmp 32) 2, some 33, none⟩,
    ⟨.store 1 (.tmp 33) (.tmp 31), none, none⟩])
  (.ops [⟨.mov (.tmp 1), some 34, none⟩,
    ⟨.bin .add (.tmp 34) (.const (.int .i64 1)), some 35, none⟩,
    ⟨.mov (.tmp 35), some 1, none⟩])))))))
  (.ops [⟨.mov (.tmp 5), some 10, none⟩,
    ⟨.bin .add (.tmp 10) (.const (.int .i64 1)), some 11, none⟩,
    ⟨.mov (.tmp 11), some 5, none⟩]))))))
  (.seq (.ops [⟨.mov (.tmp 1), some 36, none⟩,
    ⟨.mov (.tmp 36), some 4, none⟩])
  (.ret)))⟩
theorem ok_laws_markWellS : cmpF Try.prog Try.f55 = some c_laws_markWellS := by kernel_rfl

/- laws.heldWellS -/
def c_laws_heldWellS : FV := ⟨43, [.tmp 4],
  .seq (.ops [⟨.mov (.const (.int .i64 0)), some 4, none⟩])
  (.seq (.seq (.ops [⟨.mov (.const (.int .i64 0)), some 5, none⟩])
  (.block 0 (.loop (.seq (.seq (.ops [⟨.mov (.tmp 5), some 6, none⟩,
    ⟨.mov (.tmp 0), some 7, none⟩,
    ⟨.lenL (.tmp 7), some 8, none⟩,
    ⟨.bin .lss (.tmp 6) (.tmp 8), some 9, none⟩])
  (.cond (.tmp 9) (.skip) (.exit 0)))
  (.seq (.block 1 (.seq (.seq (.ops [⟨.mov (.tmp 0), some 12, none⟩,
    ⟨.mov (.tmp 5), some 13, none⟩,
    ⟨.idxS 3 (.tmp 12) (.tmp 13), some 14, none⟩,
    ⟨.addr (.tmp 14) 0, some 15, none⟩,
    ⟨.load none (.tmp 15), some 16, none⟩,
    ⟨.mov (.tmp 1), some 17, none⟩,
    ⟨.convI .i8 (.tmp 17), some 18, none⟩,
    ⟨.bin .neq (.tmp 16) (.tmp 18), some 19, none⟩])
  (.cond (.tmp 19) (.seq (.ops [⟨.mov (.const (.int .i64 (-1))), some 4, none⟩])
  (.ret)) (.skip)))
  (.seq (.ops [⟨.mov (.tmp 1), some 20, none⟩,
    ⟨.bin .add (.tmp 20) (.const (.int .i64 1)), some 21, none⟩,
    ⟨.mov (.tmp 21), some 1, none⟩])
  (.seq (.seq (.ops [⟨.mov (.tmp 0), some 22, none⟩,
    ⟨.mov (.tmp 5), some 23, none⟩,
    ⟨.idxS 3 (.tmp 22) (.tmp 23), some 24, none⟩,
    ⟨.addr (.tmp 24) 1, some 25, none⟩,
    ⟨.load none (.tmp 25), some 26, none⟩,
    ⟨.mov (.tmp 1), some 27, none⟩,
    ⟨.convI .i8 (.tmp 27), some 28, none⟩,
    ⟨.bin .neq (.tmp 26) (.tmp 28), some 29, none⟩])
  (.cond (.tmp 29) (.seq (.ops [⟨.mov (.const (.int .i64 (-1))), some 4, none⟩])
  (.ret)) (.skip)))
  (.seq (.ops [⟨.mov (.tmp 1), some 30, none⟩,
    ⟨.bin .add (.tmp 30) (.const (.int .i64 1)), some 31, none⟩,
    ⟨.mov (.tmp 31), some 1, none⟩])
  (.seq (.seq (.ops [⟨.mov (.tmp 0), some 32, none⟩,
    ⟨.mov (.tmp 5), some 33, none⟩,
    ⟨.idxS 3 (.tmp 32) (.tmp 33), some 34, none⟩,
    ⟨.addr (.tmp 34) 2, some 35, none⟩,
    ⟨.load none (.tmp 35), some 36, none⟩,
    ⟨.mov (.tmp 1), some 37, none⟩,
    ⟨.convF .f32 (.tmp 37), some 38, none⟩,
    ⟨.fbin .neq (.tmp 36) (.tmp 38), some 39, none⟩])
  (.cond (.tmp 39) (.seq (.ops [⟨.mov (.const (.int .i64 (-1))), some 4, none⟩])
  (.ret)) (.skip)))
  (.ops [⟨.mov (.tmp 1), some 40, none⟩,
    ⟨.bin .add (.tmp 40) (.const (.int .i64 1)), some 41, none⟩,
    ⟨.mov (.tmp 41), some 1, none⟩])))))))
  (.ops [⟨.mov (.tmp 5), some 10, none⟩,
    ⟨.bin .add (.tmp 10) (.const (.int .i64 1)), some 11, none⟩,
    ⟨.mov (.tmp 11), some 5, none⟩]))))))
  (.seq (.ops [⟨.mov (.tmp 1), some 42, none⟩,
    ⟨.mov (.tmp 42), some 4, none⟩])
  (.ret)))⟩
theorem ok_laws_heldWellS : cmpF Try.prog Try.f56 = some c_laws_heldWellS := by kernel_rfl

end Go.Proofs.Ytngfhggdombdgaa
