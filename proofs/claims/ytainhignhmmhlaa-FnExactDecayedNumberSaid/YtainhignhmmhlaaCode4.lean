/- The code of the Go functions in the generator's own form, printed by a program of mine (gen.py) out of the loaded program; each with the check that it is so. -/
import Derived.Test.YtainhignhmmhlaaVcFn
import Derived.Test.YtainhignhmmhlaaGeo
import Derived.Test.YtainhignhmmhlaaRows
import Derived.KernelRfl
namespace Go.Proofs.Ytainhignhmmhlaa
open Go Go.Fl Go.Vc
set_option linter.all false
set_option maxRecDepth 100000

/- impl.LineThrough -/
def c_impl_LineThrough : FV := ⟨109, [.tmp 2, .tmp 3, .tmp 4],
  .seq (.ops [⟨.mov (.const (.float .f32 0)), some 2, none⟩,
    ⟨.mov (.const (.float .f32 0)), some 3, none⟩,
    ⟨.mov (.const (.int .i64 0)), some 4, none⟩])
  (.seq (.block 0 (.seq (.ops [⟨.mov (.tmp 0), some 20, none⟩,
    ⟨.call 73 [.tmp 20], some 21, none⟩,
    ⟨.un .not (.tmp 21), some 22, none⟩,
    ⟨.mov (.tmp 22), some 19, none⟩])
  (.cond (.tmp 19) (.seq (.ops [⟨.mov (.const (.float .f32 0)), some 2, none⟩,
    ⟨.mov (.const (.float .f32 0)), some 3, none⟩,
    ⟨.mov (.const (.int .i64 1)), some 4, none⟩])
  (.ret)) (.seq (.ops [⟨.mov (.tmp 0), some 24, none⟩,
    ⟨.lenL (.tmp 24), some 25, none⟩,
    ⟨.bin .lss (.tmp 25) (.const (.int .i64 2)), some 26, none⟩,
    ⟨.mov (.tmp 26), some 23, none⟩])
  (.cond (.tmp 23) (.seq (.ops [⟨.mov (.const (.float .f32 0)), some 2, none⟩,
    ⟨.mov (.const (.float .f32 0)), some 3, none⟩,
    ⟨.mov (.const (.int .i64 6)), some 4, none⟩])
  (.ret)) (.skip))))))
  (.seq (.ops [⟨.bslice 23 1 0 (#[.float .f32 0]) [], some 27, none⟩,
    ⟨.bslice 23 1 0 (#[.float .f32 0]) [], some 28, none⟩,
    ⟨.bslice 23 1 0 (#[.float .f32 0]) [], some 29, none⟩,
    ⟨.bslice 23 1 0 (#[.float .f32 0]) [], some 30, none⟩,
    ⟨.mov (.tmp 27), some 5, none⟩,
    ⟨.mov (.tmp 28), some 6, none⟩,
    ⟨.mov (.tmp 29), some 7, none⟩,
    ⟨.mov (.tmp 30), some 8, none⟩])
  (.seq (.seq (.ops [⟨.mov (.tmp 0), some 31, none⟩,
    ⟨.lenL (.tmp 31), some 32, none⟩,
    ⟨.mov (.const (.int .i64 0)), some 33, none⟩])
  (.block 1 (.loop (.seq (.ops [⟨.bin .lss (.tmp 33) (.tmp 32), some 34, none⟩])
  (.seq (.cond (.tmp 34) (.skip) (.exit 1))
  (.seq (.block 2 (.seq (.ops [⟨.idxS 2 (.tmp 31) (.tmp 33), some 35, none⟩,
    ⟨.load (some 2) (.tmp 35), some 36, none⟩,
    ⟨.alloc 38 (.agg (#[.int .i64 0, .int .i16 0])), some 10, none⟩,
    ⟨.store 2 (.tmp 10) (.tmp 36), none, none⟩])
  (.seq (.bops [⟨.load (some 2) (.tmp 10), some 37, none⟩,
    ⟨.call 134 [.tmp 37], some 38, none⟩,
    ⟨.load (some 2) (.tmp 10), some 39, none⟩,
    ⟨.call 40 [.tmp 39], some 40, none⟩,
    ⟨.mov (.tmp 38), some 11, none⟩,
    ⟨.mov (.tmp 40), some 12, none⟩])
  (.ops [⟨.mov (.tmp 5), some 41, none⟩,
    ⟨.mov (.tmp 11), some 42, none⟩,
    ⟨.bslice 23 1 1 (#[.float .f32 0]) [(0, .tmp 42)], some 43, none⟩,
    ⟨.app 23 1 (.tmp 41) (.tmp 43), some 44, none⟩,
    ⟨.mov (.tmp 6), some 45, none⟩,
    ⟨.mov (.tmp 12), some 46, none⟩,
    ⟨.bslice 23 1 1 (#[.float .f32 0]) [(0, .tmp 46)], some 47, none⟩,
    ⟨.app 23 1 (.tmp 45) (.tmp 47), some 48, none⟩,
    ⟨.mov (.tmp 7), some 49, none⟩,
    ⟨.mov (.tmp 11), some 50, none⟩,
    ⟨.mov (.tmp 11), some 51, none⟩,
    ⟨.fbin .mul (.tmp 50) (.tmp 51), some 52, none⟩,
    ⟨.bslice 23 1 1 (#[.float .f32 0]) [(0, .tmp 52)], some 53, none⟩,
    ⟨.app 23 1 (.tmp 49) (.tmp 53), some 54, none⟩,
    ⟨.mov (.tmp 8), some 55, none⟩,
    ⟨.mov (.tmp 11), some 56, none⟩,
    ⟨.mov (.tmp 12), some 57, none⟩,
    ⟨.fbin .mul (.tmp 56) (.tmp 57), some 58, none⟩,
    ⟨.bslice 23 1 1 (#[.float .f32 0]) [(0, .tmp 58)], some 59, none⟩,
    ⟨.app 23 1 (.tmp 55) (.tmp 59), some 60, none⟩,
    ⟨.mov (.tmp 44), some 5, none⟩,
    ⟨.mov (.tmp 48), some 6, none⟩,
    ⟨.mov (.tmp 54), some 7, none⟩,
    ⟨.mov (.tmp 60), some 8, none⟩]))))
  (.ops [⟨.bin .add (.tmp 33) (.const (.int .i64 1)), some 61, none⟩,
    ⟨.mov (.tmp 61), some 33, none⟩])))))))
  (.seq (.ops [⟨.mov (.tmp 0), some 62, none⟩,
    ⟨.lenL (.tmp 62), some 63, none⟩,
    ⟨.convF .f32 (.tmp 63), some 64, none⟩,
    ⟨.mov (.tmp 5), some 65, none⟩,
    ⟨.call 135 [.tmp 65], some 66, none⟩,
    ⟨.mov (.tmp 6), some 67, none⟩,
    ⟨.call 135 [.tmp 67], some 68, none⟩,
    ⟨.mov (.tmp 64), some 13, none⟩,
    ⟨.mov (.tmp 66), some 14, none⟩,
    ⟨.mov (.tmp 68), some 15, none⟩])
  (.seq (.ops [⟨.mov (.tmp 13), some 69, none⟩,
    ⟨.mov (.tmp 7), some 70, none⟩,
    ⟨.call 135 [.tmp 70], some 71, none⟩,
    ⟨.fbin .mul (.tmp 69) (.tmp 71), some 72, none⟩,
    ⟨.mov (.tmp 14), some 73, none⟩,
    ⟨.mov (.tmp 14), some 74, none⟩,
    ⟨.fbin .mul (.tmp 73) (.tmp 74), some 75, none⟩,
    ⟨.fbin .sub (.tmp 72) (.tmp 75), some 76, none⟩,
    ⟨.mov (.tmp 76), some 16, none⟩])
  (.seq (.ops [⟨.mov (.tmp 13), some 77, none⟩,
    ⟨.mov (.tmp 8), some 78, none⟩,
    ⟨.call 135 [.tmp 78], some 79, none⟩,
    ⟨.fbin .mul (.tmp 77) (.tmp 79), some 80, none⟩,
    ⟨.mov (.tmp 14), some 81, none⟩,
    ⟨.mov (.tmp 15), some 82, none⟩,
    ⟨.fbin .mul (.tmp 81) (.tmp 82), some 83, none⟩,
    ⟨.fbin .sub (.tmp 80) (.tmp 83), some 84, none⟩,
    ⟨.mov (.tmp 16), some 85, none⟩,
    ⟨.fbin .quo (.tmp 84) (.tmp 85), some 86, none⟩,
    ⟨.mov (.tmp 86), some 17, none⟩])
  (.seq (.ops [⟨.mov (.tmp 15), some 87, none⟩,
    ⟨.mov (.tmp 17), some 88, none⟩,
    ⟨.mov (.tmp 14), some 89, none⟩,
    ⟨.fbin .mul (.tmp 88) (.tmp 89), some 90, none⟩,
    ⟨.fbin .sub (.tmp 87) (.tmp 90), some 91, none⟩,
    ⟨.mov (.tmp 13), some 92, none⟩,
    ⟨.fbin .quo (.tmp 91) (.tmp 92), some 93, none⟩,
    ⟨.mov (.tmp 93), some 18, none⟩])
  (.seq (.seq (.ops [⟨.mov (.tmp 16), some 94, none⟩,
    ⟨.fbin .gtr (.tmp 94) (.const (.float .f32 0)), some 95, none⟩,
    ⟨.un .not (.tmp 95), some 96, none⟩,
    ⟨.mov (.tmp 96), some 97, none⟩,
    ⟨.mov (.tmp 17), some 98, some (97, false)⟩,
    ⟨.call 136 [.tmp 98], some 99, some (97, false)⟩,
    ⟨.un .not (.tmp 99), some 100, some (97, false)⟩,
    ⟨.pick (.tmp 97) (.const (.bool true)) (.tmp 100), some 101, none⟩,
    ⟨.mov (.tmp 101), some 102, none⟩,
    ⟨.mov (.tmp 18), some 103, some (102, false)⟩,
    ⟨.call 136 [.tmp 103], some 104, some (102, false)⟩,
    ⟨.un .not (.tmp 104), some 105, some (102, false)⟩,
    ⟨.pick (.tmp 102) (.const (.bool true)) (.tmp 105), some 106, none⟩])
  (.cond (.tmp 106) (.seq (.ops [⟨.mov (.const (.float .f32 0)), some 2, none⟩,
    ⟨.mov (.const (.float .f32 0)), some 3, none⟩,
    ⟨.mov (.const (.int .i64 4)), some 4, none⟩])
  (.ret)) (.skip)))
  (.seq (.ops [⟨.mov (.tmp 18), some 107, none⟩,
    ⟨.mov (.tmp 17), some 108, none⟩,
    ⟨.mov (.tmp 107), some 2, none⟩,
    ⟨.mov (.tmp 108), some 3, none⟩,
    ⟨.mov (.const (.int .i64 0)), some 4, none⟩])
  (.ret))))))))))⟩
theorem ok_impl_LineThrough : cmpF Try.prog Try.f90 = some c_impl_LineThrough := by kernel_rfl

/- spec.DrawdownAt -/
def c_spec_DrawdownAt : FV := ⟨29, [.tmp 10, .tmp 11],
  .seq (.ops [⟨.box 28 (.tmp 0), some 5, none⟩,
    ⟨.box 53 (.tmp 1), some 6, none⟩,
    ⟨.mov (.const (.float .f32 0)), some 10, none⟩,
    ⟨.mov (.const (.int .i64 0)), some 11, none⟩])
  (.seq (.seq (.ops [⟨.load (some 2) (.tmp 5), some 13, none⟩,
    ⟨.load (some 3) (.tmp 6), some 14, none⟩,
    ⟨.bslice 53 3 1 (#[.int .i8 0, .int .i8 0, .float .f32 0]) [(0, .tmp 14)], some 15, none⟩,
    ⟨.mov (.tmp 2), some 16, none⟩,
    ⟨.mov (.tmp 3), some 17, none⟩,
    ⟨.mov (.tmp 4), some 18, none⟩,
    ⟨.call 126 [.tmp 13, .tmp 15, .tmp 16, .tmp 17, .tmp 18], some 19, none⟩,
    ⟨.mov (.tmp 19), some 12, none⟩])
  (.seq (.ops [⟨.mov (.tmp 12), some 20, none⟩,
    ⟨.bin .neq (.tmp 20) (.const (.int .i64 0)), some 21, none⟩])
  (.cond (.tmp 21) (.seq (.ops [⟨.mov (.tmp 12), some 22, none⟩,
    ⟨.mov (.const (.float .f32 0)), some 10, none⟩,
    ⟨.mov (.tmp 22), some 11, none⟩])
  (.ret)) (.skip))))
  (.seq (.ops [⟨.load (some 2) (.tmp 5), some 23, none⟩,
    ⟨.load (some 3) (.tmp 6), some 24, none⟩,
    ⟨.mov (.tmp 2), some 25, none⟩,
    ⟨.mov (.tmp 3), some 26, none⟩,
    ⟨.mov (.tmp 4), some 27, none⟩,
    ⟨.call 137 [.tmp 23, .tmp 24, .tmp 25, .tmp 26, .tmp 27], some 28, none⟩,
    ⟨.mov (.tmp 28), some 10, none⟩,
    ⟨.mov (.const (.int .i64 0)), some 11, none⟩])
  (.ret)))⟩
theorem ok_spec_DrawdownAt : cmpF Try.prog Try.f91 = some c_spec_DrawdownAt := by kernel_rfl

/- impl.DrawdownAt -/
def c_impl_DrawdownAt : FV := ⟨30, [.tmp 10, .tmp 11],
  .seq (.ops [⟨.box 28 (.tmp 0), some 5, none⟩,
    ⟨.box 53 (.tmp 1), some 6, none⟩,
    ⟨.mov (.const (.float .f32 0)), some 10, none⟩,
    ⟨.mov (.const (.int .i64 0)), some 11, none⟩])
  (.seq (.seq (.ops [⟨.load (some 2) (.tmp 5), some 13, none⟩,
    ⟨.load (some 3) (.tmp 6), some 14, none⟩,
    ⟨.bslice 53 3 1 (#[.int .i8 0, .int .i8 0, .float .f32 0]) [(0, .tmp 14)], some 15, none⟩,
    ⟨.mov (.tmp 2), some 16, none⟩,
    ⟨.mov (.tmp 3), some 17, none⟩,
    ⟨.mov (.tmp 4), some 18, none⟩,
    ⟨.bslice 2 1 1 (#[.int .i64 0]) [(0, .tmp 18)], some 19, none⟩,
    ⟨.call 128 [.tmp 13, .tmp 15, .tmp 16, .tmp 17, .tmp 19], some 20, none⟩,
    ⟨.mov (.tmp 20), some 12, none⟩])
  (.seq (.ops [⟨.mov (.tmp 12), some 21, none⟩,
    ⟨.bin .neq (.tmp 21) (.const (.int .i64 0)), some 22, none⟩])
  (.cond (.tmp 22) (.seq (.ops [⟨.mov (.tmp 12), some 23, none⟩,
    ⟨.mov (.const (.float .f32 0)), some 10, none⟩,
    ⟨.mov (.tmp 23), some 11, none⟩])
  (.ret)) (.skip))))
  (.seq (.ops [⟨.load (some 2) (.tmp 5), some 24, none⟩,
    ⟨.load (some 3) (.tmp 6), some 25, none⟩,
    ⟨.mov (.tmp 2), some 26, none⟩,
    ⟨.mov (.tmp 3), some 27, none⟩,
    ⟨.mov (.tmp 4), some 28, none⟩,
    ⟨.call 138 [.tmp 24, .tmp 25, .tmp 26, .tmp 27, .tmp 28], some 29, none⟩,
    ⟨.mov (.tmp 29), some 10, none⟩,
    ⟨.mov (.const (.int .i64 0)), some 11, none⟩])
  (.ret)))⟩
theorem ok_impl_DrawdownAt : cmpF Try.prog Try.f92 = some c_impl_DrawdownAt := by kernel_rfl

/- spec.l01Plain -/
def c_spec_l01Plain : FV := ⟨9, [.tmp 2],
  .seq (.ops [⟨.mov (.const (.bool false)), some 2, none⟩])
  (.seq (.ops [⟨.mov (.tmp 0), some 3, none⟩,
    ⟨.fbin .geq (.tmp 3) (.const (.float .f32 3380609024)), some 4, none⟩,
    ⟨.mov (.tmp 4), some 5, none⟩,
    ⟨.mov (.tmp 0), some 6, some (5, true)⟩,
    ⟨.fbin .leq (.tmp 6) (.const (.float .f32 1233125376)), some 7, some (5, true)⟩,
    ⟨.pick (.tmp 5) (.tmp 7) (.const (.bool false)), some 8, none⟩,
    ⟨.mov (.tmp 8), some 2, none⟩])
  (.ret))⟩
theorem ok_spec_l01Plain : cmpF Try.prog Try.f93 = some c_spec_l01Plain := by kernel_rfl

/- spec.l03Aquifer -/
def c_spec_l03Aquifer : FV := ⟨23, [.tmp 2],
  .seq (.ops [⟨.box 28 (.tmp 0), some 1, none⟩,
    ⟨.mov (.const (.bool false)), some 2, none⟩])
  (.seq (.dops [⟨.addr (.tmp 1) 0, some 3, none⟩,
    ⟨.load none (.tmp 3), some 4, none⟩,
    ⟨.call 114 [.const (.int .i64 1), .const (.int .i64 1024)], some 5, none⟩,
    ⟨.fbin .geq (.tmp 4) (.tmp 5), some 6, none⟩,
    ⟨.mov (.tmp 6), some 7, none⟩,
    ⟨.addr (.tmp 1) 0, some 8, some (7, true)⟩,
    ⟨.load none (.tmp 8), some 9, some (7, true)⟩,
    ⟨.fbin .leq (.tmp 9) (.const (.float .f32 1233125376)), some 10, some (7, true)⟩,
    ⟨.pick (.tmp 7) (.tmp 10) (.const (.bool false)), some 11, none⟩,
    ⟨.mov (.tmp 11), some 12, none⟩,
    ⟨.addr (.tmp 1) 1, some 13, some (12, true)⟩,
    ⟨.load none (.tmp 13), some 14, some (12, true)⟩,
    ⟨.call 114 [.const (.int .i64 1), .const (.int .i64 1048576)], some 15, some (12, true)⟩,
    ⟨.fbin .geq (.tmp 14) (.tmp 15), some 16, some (12, true)⟩,
    ⟨.pick (.tmp 12) (.tmp 16) (.const (.bool false)), some 17, none⟩,
    ⟨.mov (.tmp 17), some 18, none⟩,
    ⟨.addr (.tmp 1) 1, some 19, some (18, true)⟩,
    ⟨.load none (.tmp 19), some 20, some (18, true)⟩,
    ⟨.fbin .leq (.tmp 20) (.const (.float .f32 1065353216)), some 21, some (18, true)⟩,
    ⟨.pick (.tmp 18) (.tmp 21) (.const (.bool false)), some 22, none⟩,
    ⟨.mov (.tmp 22), some 2, none⟩])
  (.ret))⟩
theorem ok_spec_l03Aquifer : cmpF Try.prog Try.f94 = some c_spec_l03Aquifer := by kernel_rfl

/- spec.l00In -/
def c_spec_l00In : FV := ⟨15, [.tmp 6],
  .seq (.ops [⟨.mov (.const (.bool false)), some 6, none⟩])
  (.seq (.ops [⟨.mov (.tmp 0), some 7, none⟩,
    ⟨.mov (.tmp 1), some 8, none⟩,
    ⟨.bin .geq (.tmp 7) (.tmp 8), some 9, none⟩,
    ⟨.mov (.tmp 9), some 10, none⟩,
    ⟨.mov (.tmp 0), some 11, some (10, true)⟩,
    ⟨.mov (.tmp 2), some 12, some (10, true)⟩,
    ⟨.bin .leq (.tmp 11) (.tmp 12), some 13, some (10, true)⟩,
    ⟨.pick (.tmp 10) (.tmp 13) (.const (.bool false)), some 14, none⟩,
    ⟨.mov (.tmp 14), some 6, none⟩])
  (.ret))⟩
theorem ok_spec_l00In : cmpF Try.prog Try.f95 = some c_spec_l00In := by kernel_rfl

/- impl.in -/
def c_impl_in : FV := ⟨15, [.tmp 6],
  .seq (.ops [⟨.mov (.const (.bool false)), some 6, none⟩])
  (.seq (.ops [⟨.mov (.tmp 0), some 7, none⟩,
    ⟨.mov (.tmp 1), some 8, none⟩,
    ⟨.bin .geq (.tmp 7) (.tmp 8), some 9, none⟩,
    ⟨.mov (.tmp 9), some 10, none⟩,
    ⟨.mov (.tmp 0), some 11, some (10, true)⟩,
    ⟨.mov (.tmp 2), some 12, some (10, true)⟩,
    ⟨.bin .leq (.tmp 11) (.tmp 12), some 13, some (10, true)⟩,
    ⟨.pick (.tmp 10) (.tmp 13) (.const (.bool false)), some 14, none⟩,
    ⟨.mov (.tmp 14), some 6, none⟩])
  (.ret))⟩
theorem ok_impl_in : cmpF Try.prog Try.f96 = some c_impl_in := by kernel_rfl

/- spec.l01Same -/
def c_spec_l01Same : FV := ⟨26, [.tmp 4],
  .seq (.ops [⟨.mov (.const (.bool false)), some 4, none⟩])
  (.seq (.seq (.ops [⟨.mov (.tmp 0), some 5, none⟩,
    ⟨.mov (.tmp 0), some 6, none⟩,
    ⟨.fbin .neq (.tmp 5) (.tmp 6), some 7, none⟩,
    ⟨.mov (.tmp 7), some 8, none⟩,
    ⟨.mov (.tmp 1), some 9, some (8, false)⟩,
    ⟨.mov (.tmp 1), some 10, some (8, false)⟩,
    ⟨.fbin .neq (.tmp 9) (.tmp 10), some 11, some (8, false)⟩,
    ⟨.pick (.tmp 8) (.const (.bool true)) (.tmp 11), some 12, none⟩])
  (.cond (.tmp 12) (.seq (.ops [⟨.mov (.tmp 0), some 13, none⟩,
    ⟨.mov (.tmp 0), some 14, none⟩,
    ⟨.fbin .neq (.tmp 13) (.tmp 14), some 15, none⟩,
    ⟨.mov (.tmp 15), some 16, none⟩,
    ⟨.mov (.tmp 1), some 17, some (16, true)⟩,
    ⟨.mov (.tmp 1), some 18, some (16, true)⟩,
    ⟨.fbin .neq (.tmp 17) (.tmp 18), some 19, some (16, true)⟩,
    ⟨.pick (.tmp 16) (.tmp 19) (.const (.bool false)), some 20, none⟩,
    ⟨.mov (.tmp 20), some 4, none⟩])
  (.ret)) (.skip)))
  (.seq (.ops [⟨.mov (.tmp 0), some 21, none⟩,
    ⟨.f32bits (.tmp 21), some 22, none⟩,
    ⟨.mov (.tmp 1), some 23, none⟩,
    ⟨.f32bits (.tmp 23), some 24, none⟩,
    ⟨.bin .eql (.tmp 22) (.tmp 24), some 25, none⟩,
    ⟨.mov (.tmp 25), some 4, none⟩])
  (.ret)))⟩
theorem ok_spec_l01Same : cmpF Try.prog Try.f97 = some c_spec_l01Same := by kernel_rfl

/- impl.isNaN -/
def c_impl_isNaN : FV := ⟨6, [.tmp 2],
  .seq (.ops [⟨.mov (.const (.bool false)), some 2, none⟩])
  (.seq (.ops [⟨.mov (.tmp 0), some 3, none⟩,
    ⟨.mov (.tmp 0), some 4, none⟩,
    ⟨.fbin .neq (.tmp 3) (.tmp 4), some 5, none⟩,
    ⟨.mov (.tmp 5), some 2, none⟩])
  (.ret))⟩
theorem ok_impl_isNaN : cmpF Try.prog Try.f98 = some c_impl_isNaN := by kernel_rfl

/- spec.l04Level -/
def c_spec_l04Level : FV := ⟨7, [.tmp 2],
  .seq (.ops [⟨.box 38 (.tmp 0), some 1, none⟩,
    ⟨.mov (.const (.float .f32 0)), some 2, none⟩])
  (.seq (.ops [⟨.addr (.tmp 1) 1, some 3, none⟩,
    ⟨.load none (.tmp 3), some 4, none⟩,
    ⟨.convF .f32 (.tmp 4), some 5, none⟩,
    ⟨.fbin .quo (.tmp 5) (.const (.float .f32 1098907648)), some 6, none⟩,
    ⟨.mov (.tmp 6), some 2, none⟩])
  (.ret))⟩
theorem ok_spec_l04Level : cmpF Try.prog Try.f100 = some c_spec_l04Level := by kernel_rfl

/- spec.l00From -/
def c_spec_l00From : FV := ⟨6, [.tmp 2],
  .seq (.ops [⟨.mov (.const (.pointer none)), some 2, none⟩])
  (.seq (.ops [⟨.mov (.tmp 0), some 3, none⟩,
    ⟨.build [(0, 1), (1, 1), (2, 1)] (#[.slice none 0 0, .int .i64 0, .int .u64 0]) [(0, .tmp 3)], some 4, none⟩,
    ⟨.box 124 (.tmp 4), some 5, none⟩,
    ⟨.mov (.tmp 5), some 2, none⟩])
  (.ret))⟩
theorem ok_spec_l00From : cmpF Try.prog Try.f101 = some c_spec_l00From := by kernel_rfl

/- spec.l00Src.pick -/
def c_spec_l00Src_pick : FV := ⟨20, [.tmp 4],
  .seq (.ops [⟨.mov (.const (.int .i64 0)), some 4, none⟩])
  (.seq (.seq (.ops [⟨.mov (.tmp 1), some 6, none⟩,
    ⟨.bin .leq (.tmp 6) (.const (.int .i64 1)), some 7, none⟩])
  (.cond (.tmp 7) (.seq (.ops [⟨.mov (.const (.int .i64 0)), some 4, none⟩])
  (.ret)) (.skip)))
  (.seq (.ops [⟨.mov (.tmp 0), some 8, none⟩,
    ⟨.call 139 [.tmp 8], some 9, none⟩,
    ⟨.mov (.tmp 9), some 5, none⟩])
  (.seq (.seq (.ops [⟨.mov (.tmp 1), some 10, none⟩,
    ⟨.bin .gtr (.tmp 10) (.const (.int .i64 200)), some 11, none⟩])
  (.cond (.tmp 11) (.ops [⟨.mov (.tmp 5), some 12, none⟩,
    ⟨.bin .mul (.tmp 12) (.const (.int .i64 256)), some 13, none⟩,
    ⟨.mov (.tmp 0), some 14, none⟩,
    ⟨.call 139 [.tmp 14], some 15, none⟩,
    ⟨.bin .add (.tmp 13) (.tmp 15), some 16, none⟩,
    ⟨.mov (.tmp 16), some 5, none⟩]) (.skip)))
  (.seq (.ops [⟨.mov (.tmp 5), some 17, none⟩,
    ⟨.mov (.tmp 1), some 18, none⟩,
    ⟨.bin .rem (.tmp 17) (.tmp 18), some 19, none⟩,
    ⟨.mov (.tmp 19), some 4, none⟩])
  (.ret)))))⟩
theorem ok_spec_l00Src_pick : cmpF Try.prog Try.f102 = some c_spec_l00Src_pick := by kernel_rfl

/- spec.l03Ln -/
def c_spec_l03Ln : FV := ⟨54, [.tmp 2],
  .seq (.ops [⟨.mov (.const (.float .f32 0)), some 2, none⟩])
  (.seq (.ops [⟨.mov (.tmp 0), some 9, none⟩,
    ⟨.mov (.tmp 9), some 3, none⟩])
  (.seq (.ops [⟨.mov (.const (.int .i64 0)), some 4, none⟩])
  (.seq (.block 0 (.loop (.seq (.seq (.ops [⟨.mov (.tmp 3), some 10, none⟩,
    ⟨.fbin .geq (.tmp 10) (.const (.float .f32 1069547520)), some 11, none⟩])
  (.cond (.tmp 11) (.skip) (.exit 0)))
  (.block 1 (.seq (.ops [⟨.mov (.tmp 3), some 12, none⟩,
    ⟨.fbin .quo (.tmp 12) (.const (.float .f32 1073741824)), some 13, none⟩,
    ⟨.mov (.tmp 13), some 3, none⟩])
  (.ops [⟨.mov (.tmp 4), some 14, none⟩,
    ⟨.bin .add (.tmp 14) (.const (.int .i64 1)), some 15, none⟩,
    ⟨.mov (.tmp 15), some 4, none⟩]))))))
  (.seq (.block 2 (.loop (.seq (.seq (.ops [⟨.mov (.tmp 3), some 16, none⟩,
    ⟨.fbin .lss (.tmp 16) (.const (.float .f32 1061158912)), some 17, none⟩])
  (.cond (.tmp 17) (.skip) (.exit 2)))
  (.block 3 (.seq (.ops [⟨.mov (.tmp 3), some 18, none⟩,
    ⟨.fbin .mul (.tmp 18) (.const (.float .f32 1073741824)), some 19, none⟩,
    ⟨.mov (.tmp 19), some 3, none⟩])
  (.ops [⟨.mov (.tmp 4), some 20, none⟩,
    ⟨.bin .sub (.tmp 20) (.const (.int .i64 1)), some 21, none⟩,
    ⟨.mov (.tmp 21), some 4, none⟩]))))))
  (.seq (.ops [⟨.mov (.tmp 3), some 22, none⟩,
    ⟨.fbin .sub (.tmp 22) (.const (.float .f32 1065353216)), some 23, none⟩,
    ⟨.mov (.tmp 3), some 24, none⟩,
    ⟨.fbin .add (.tmp 24) (.const (.float .f32 1065353216)), some 25, none⟩,
    ⟨.fbin .quo (.tmp 23) (.tmp 25), some 26, none⟩,
    ⟨.mov (.tmp 26), some 5, none⟩])
  (.seq (.ops [⟨.mov (.tmp 5), some 27, none⟩,
    ⟨.mov (.tmp 5), some 28, none⟩,
    ⟨.fbin .mul (.tmp 27) (.tmp 28), some 29, none⟩,
    ⟨.mov (.tmp 29), some 6, none⟩])
  (.seq (.ops [⟨.mov (.tmp 6), some 30, none⟩,
    ⟨.call 114 [.const (.int .i64 1), .const (.int .i64 7)], some 31, none⟩,
    ⟨.fbin .mul (.tmp 30) (.tmp 31), some 32, none⟩,
    ⟨.call 114 [.const (.int .i64 1), .const (.int .i64 5)], some 33, none⟩,
    ⟨.fbin .add (.tmp 32) (.tmp 33), some 34, none⟩,
    ⟨.mov (.tmp 34), some 7, none⟩])
  (.seq (.ops [⟨.mov (.tmp 7), some 35, none⟩,
    ⟨.mov (.tmp 6), some 36, none⟩,
    ⟨.fbin .mul (.tmp 35) (.tmp 36), some 37, none⟩,
    ⟨.call 114 [.const (.int .i64 1), .const (.int .i64 3)], some 38, none⟩,
    ⟨.fbin .add (.tmp 37) (.tmp 38), some 39, none⟩,
    ⟨.mov (.tmp 39), some 7, none⟩])
  (.seq (.ops [⟨.mov (.tmp 7), some 40, none⟩,
    ⟨.mov (.tmp 6), some 41, none⟩,
    ⟨.fbin .mul (.tmp 40) (.tmp 41), some 42, none⟩,
    ⟨.fbin .add (.tmp 42) (.const (.float .f32 1065353216)), some 43, none⟩,
    ⟨.mov (.tmp 43), some 7, none⟩])
  (.seq (.ops [⟨.mov (.tmp 5), some 44, none⟩,
    ⟨.mov (.tmp 7), some 45, none⟩,
    ⟨.fbin .mul (.tmp 44) (.tmp 45), some 46, none⟩,
    ⟨.mov (.tmp 46), some 8, none⟩])
  (.seq (.ops [⟨.mov (.tmp 8), some 47, none⟩,
    ⟨.fbin .mul (.const (.float .f32 1073741824)) (.tmp 47), some 48, none⟩,
    ⟨.mov (.tmp 48), some 8, none⟩])
  (.seq (.ops [⟨.mov (.tmp 4), some 49, none⟩,
    ⟨.convF .f32 (.tmp 49), some 50, none⟩,
    ⟨.fbin .mul (.tmp 50) (.const (.float .f32 1060205080)), some 51, none⟩,
    ⟨.mov (.tmp 8), some 52, none⟩,
    ⟨.fbin .add (.tmp 51) (.tmp 52), some 53, none⟩,
    ⟨.mov (.tmp 53), some 2, none⟩])
  (.ret)))))))))))))⟩
theorem ok_spec_l03Ln : cmpF Try.prog Try.f103 = some c_spec_l03Ln := by kernel_rfl

/- spec.l03Exp -/
def c_spec_l03Exp : FV := ⟨29, [.tmp 2],
  .seq (.ops [⟨.mov (.const (.float .f32 0)), some 2, none⟩])
  (.seq (.ops [⟨.mov (.tmp 0), some 6, none⟩,
    ⟨.fbin .quo (.tmp 6) (.const (.float .f32 1132462080)), some 7, none⟩,
    ⟨.mov (.tmp 7), some 3, none⟩])
  (.seq (.ops [⟨.mov (.tmp 3), some 8, none⟩,
    ⟨.call 114 [.const (.int .i64 1), .const (.int .i64 6)], some 9, none⟩,
    ⟨.fbin .mul (.tmp 8) (.tmp 9), some 10, none⟩,
    ⟨.fbin .add (.tmp 10) (.const (.float .f32 1056964608)), some 11, none⟩,
    ⟨.mov (.tmp 11), some 4, none⟩])
  (.seq (.ops [⟨.mov (.tmp 4), some 12, none⟩,
    ⟨.mov (.tmp 3), some 13, none⟩,
    ⟨.fbin .mul (.tmp 12) (.tmp 13), some 14, none⟩,
    ⟨.fbin .add (.tmp 14) (.const (.float .f32 1065353216)), some 15, none⟩,
    ⟨.mov (.tmp 15), some 4, none⟩])
  (.seq (.ops [⟨.mov (.tmp 4), some 16, none⟩,
    ⟨.mov (.tmp 3), some 17, none⟩,
    ⟨.fbin .mul (.tmp 16) (.tmp 17), some 18, none⟩,
    ⟨.fbin .add (.tmp 18) (.const (.float .f32 1065353216)), some 19, none⟩,
    ⟨.mov (.tmp 19), some 4, none⟩])
  (.seq (.seq (.ops [⟨.mov (.const (.int .i64 0)), some 5, none⟩])
  (.block 0 (.loop (.seq (.seq (.ops [⟨.mov (.tmp 5), some 20, none⟩,
    ⟨.bin .lss (.tmp 20) (.const (.int .i64 8)), some 21, none⟩])
  (.cond (.tmp 21) (.skip) (.exit 0)))
  (.seq (.block 1 (.ops [⟨.mov (.tmp 4), some 24, none⟩,
    ⟨.mov (.tmp 4), some 25, none⟩,
    ⟨.fbin .mul (.tmp 24) (.tmp 25), some 26, none⟩,
    ⟨.mov (.tmp 26), some 4, none⟩]))
  (.ops [⟨.mov (.tmp 5), some 22, none⟩,
    ⟨.bin .add (.tmp 22) (.const (.int .i64 1)), some 23, none⟩,
    ⟨.mov (.tmp 23), some 5, none⟩]))))))
  (.seq (.ops [⟨.mov (.tmp 4), some 27, none⟩,
    ⟨.fbin .quo (.const (.float .f32 1065353216)) (.tmp 27), some 28, none⟩,
    ⟨.mov (.tmp 28), some 2, none⟩])
  (.ret)))))))⟩
theorem ok_spec_l03Exp : cmpF Try.prog Try.f104 = some c_spec_l03Exp := by kernel_rfl

/- spec.l03Well -/
def c_spec_l03Well : FV := ⟨59, [.tmp 2],
  .seq (.ops [⟨.mov (.const (.float .f32 0)), some 2, none⟩])
  (.seq (.seq (.ops [⟨.mov (.tmp 0), some 9, none⟩,
    ⟨.fbin .leq (.tmp 9) (.const (.float .f32 1065353216)), some 10, none⟩])
  (.cond (.tmp 10) (.seq (.ops [⟨.mov (.tmp 0), some 11, none⟩,
    ⟨.call 114 [.const (.int .i64 1), .const (.int .i64 600)], some 12, none⟩,
    ⟨.fbin .mul (.tmp 11) (.tmp 12), some 13, none⟩,
    ⟨.call 114 [.const (.int .i64 1), .const (.int .i64 96)], some 14, none⟩,
    ⟨.fbin .sub (.tmp 13) (.tmp 14), some 15, none⟩,
    ⟨.mov (.tmp 15), some 3, none⟩])
  (.seq (.ops [⟨.mov (.tmp 3), some 16, none⟩,
    ⟨.mov (.tmp 0), some 17, none⟩,
    ⟨.fbin .mul (.tmp 16) (.tmp 17), some 18, none⟩,
    ⟨.call 114 [.const (.int .i64 1), .const (.int .i64 18)], some 19, none⟩,
    ⟨.fbin .add (.tmp 18) (.tmp 19), some 20, none⟩,
    ⟨.mov (.tmp 20), some 3, none⟩])
  (.seq (.ops [⟨.mov (.tmp 3), some 21, none⟩,
    ⟨.mov (.tmp 0), some 22, none⟩,
    ⟨.fbin .mul (.tmp 21) (.tmp 22), some 23, none⟩,
    ⟨.call 114 [.const (.int .i64 1), .const (.int .i64 4)], some 24, none⟩,
    ⟨.fbin .sub (.tmp 23) (.tmp 24), some 25, none⟩,
    ⟨.mov (.tmp 25), some 3, none⟩])
  (.seq (.ops [⟨.mov (.tmp 3), some 26, none⟩,
    ⟨.mov (.tmp 0), some 27, none⟩,
    ⟨.fbin .mul (.tmp 26) (.tmp 27), some 28, none⟩,
    ⟨.fbin .add (.tmp 28) (.const (.float .f32 1065353216)), some 29, none⟩,
    ⟨.mov (.tmp 29), some 3, none⟩])
  (.seq (.ops [⟨.mov (.const (.float .f32 0)), some 4, none⟩])
  (.seq (.ops [⟨.mov (.tmp 4), some 30, none⟩,
    ⟨.fbin .sub (.tmp 30) (.const (.float .f32 1058260072)), some 31, none⟩,
    ⟨.mov (.tmp 0), some 32, none⟩,
    ⟨.call 103 [.tmp 32], some 33, none⟩,
    ⟨.fbin .sub (.tmp 31) (.tmp 33), some 34, none⟩,
    ⟨.mov (.tmp 34), some 5, none⟩])
  (.seq (.ops [⟨.mov (.tmp 5), some 35, none⟩,
    ⟨.mov (.tmp 3), some 36, none⟩,
    ⟨.mov (.tmp 0), some 37, none⟩,
    ⟨.fbin .mul (.tmp 36) (.tmp 37), some 38, none⟩,
    ⟨.fbin .add (.tmp 35) (.tmp 38), some 39, none⟩,
    ⟨.mov (.tmp 39), some 2, none⟩])
  (.ret)))))))) (.skip)))
  (.seq (.ops [⟨.mov (.tmp 0), some 40, none⟩,
    ⟨.mov (.tmp 40), some 6, none⟩])
  (.seq (.seq (.ops [⟨.mov (.const (.int .i64 8)), some 7, none⟩])
  (.block 0 (.loop (.seq (.seq (.ops [⟨.mov (.tmp 7), some 41, none⟩,
    ⟨.bin .geq (.tmp 41) (.const (.int .i64 1)), some 42, none⟩])
  (.cond (.tmp 42) (.skip) (.exit 0)))
  (.seq (.block 1 (.seq (.ops [⟨.mov (.tmp 7), some 45, none⟩,
    ⟨.convF .f32 (.tmp 45), some 46, none⟩,
    ⟨.mov (.tmp 46), some 8, none⟩])
  (.ops [⟨.mov (.tmp 0), some 47, none⟩,
    ⟨.mov (.tmp 8), some 48, none⟩,
    ⟨.mov (.tmp 8), some 49, none⟩,
    ⟨.mov (.tmp 6), some 50, none⟩,
    ⟨.fbin .quo (.tmp 49) (.tmp 50), some 51, none⟩,
    ⟨.fbin .add (.const (.float .f32 1065353216)) (.tmp 51), some 52, none⟩,
    ⟨.fbin .quo (.tmp 48) (.tmp 52), some 53, none⟩,
    ⟨.fbin .add (.tmp 47) (.tmp 53), some 54, none⟩,
    ⟨.mov (.tmp 54), some 6, none⟩])))
  (.ops [⟨.mov (.tmp 7), some 43, none⟩,
    ⟨.bin .sub (.tmp 43) (.const (.int .i64 1)), some 44, none⟩,
    ⟨.mov (.tmp 44), some 7, none⟩]))))))
  (.seq (.ops [⟨.mov (.tmp 0), some 55, none⟩,
    ⟨.call 104 [.tmp 55], some 56, none⟩,
    ⟨.mov (.tmp 6), some 57, none⟩,
    ⟨.fbin .quo (.tmp 56) (.tmp 57), some 58, none⟩,
    ⟨.mov (.tmp 58), some 2, none⟩])
  (.ret)))))⟩
theorem ok_spec_l03Well : cmpF Try.prog Try.f105 = some c_spec_l03Well := by kernel_rfl

/- spec.l03Ok -/
def c_spec_l03Ok : FV := ⟨18, [.tmp 2],
  .seq (.ops [⟨.box 53 (.tmp 0), some 1, none⟩,
    ⟨.mov (.const (.bool false)), some 2, none⟩])
  (.seq (.ops [⟨.addr (.tmp 1) 0, some 3, none⟩,
    ⟨.load none (.tmp 3), some 4, none⟩,
    ⟨.convI .i64 (.tmp 4), some 5, none⟩,
    ⟨.call 140 [.tmp 5], some 6, none⟩,
    ⟨.mov (.tmp 6), some 7, none⟩,
    ⟨.addr (.tmp 1) 1, some 8, some (7, true)⟩,
    ⟨.load none (.tmp 8), some 9, some (7, true)⟩,
    ⟨.convI .i64 (.tmp 9), some 10, some (7, true)⟩,
    ⟨.call 140 [.tmp 10], some 11, some (7, true)⟩,
    ⟨.pick (.tmp 7) (.tmp 11) (.const (.bool false)), some 12, none⟩,
    ⟨.mov (.tmp 12), some 13, none⟩,
    ⟨.addr (.tmp 1) 2, some 14, some (13, true)⟩,
    ⟨.load none (.tmp 14), some 15, some (13, true)⟩,
    ⟨.call 141 [.tmp 15], some 16, some (13, true)⟩,
    ⟨.pick (.tmp 13) (.tmp 16) (.const (.bool false)), some 17, none⟩,
    ⟨.mov (.tmp 17), some 2, none⟩])
  (.ret))⟩
theorem ok_spec_l03Ok : cmpF Try.prog Try.f106 = some c_spec_l03Ok := by kernel_rfl

/- impl.isPlace -/
def c_impl_isPlace : FV := ⟨5, [.tmp 2],
  .seq (.ops [⟨.mov (.const (.bool false)), some 2, none⟩])
  (.seq (.ops [⟨.mov (.tmp 0), some 3, none⟩,
    ⟨.call 96 [.tmp 3, .const (.int .i64 (-100)), .const (.int .i64 100)], some 4, none⟩,
    ⟨.mov (.tmp 4), some 2, none⟩])
  (.ret))⟩
theorem ok_impl_isPlace : cmpF Try.prog Try.f107 = some c_impl_isPlace := by kernel_rfl

/- spec.l01Joint -/
def c_spec_l01Joint : FV := ⟨21, [.tmp 4],
  .seq (.ops [⟨.mov (.const (.float .f32 0)), some 4, none⟩])
  (.seq (.seq (.ops [⟨.mov (.tmp 0), some 5, none⟩,
    ⟨.fbin .gtr (.tmp 5) (.const (.float .f32 0)), some 6, none⟩,
    ⟨.un .not (.tmp 6), some 7, none⟩,
    ⟨.mov (.tmp 7), some 8, none⟩,
    ⟨.mov (.tmp 1), some 9, some (8, false)⟩,
    ⟨.fbin .gtr (.tmp 9) (.const (.float .f32 0)), some 10, some (8, false)⟩,
    ⟨.un .not (.tmp 10), some 11, some (8, false)⟩,
    ⟨.pick (.tmp 8) (.const (.bool true)) (.tmp 11), some 12, none⟩])
  (.cond (.tmp 12) (.seq (.ops [⟨.mov (.const (.float .f32 0)), some 4, none⟩])
  (.ret)) (.skip)))
  (.seq (.ops [⟨.mov (.tmp 0), some 13, none⟩,
    ⟨.mov (.tmp 1), some 14, none⟩,
    ⟨.fbin .mul (.tmp 13) (.tmp 14), some 15, none⟩,
    ⟨.fbin .mul (.const (.float .f32 1073741824)) (.tmp 15), some 16, none⟩,
    ⟨.mov (.tmp 0), some 17, none⟩,
    ⟨.mov (.tmp 1), some 18, none⟩,
    ⟨.fbin .add (.tmp 17) (.tmp 18), some 19, none⟩,
    ⟨.fbin .quo (.tmp 16) (.tmp 19), some 20, none⟩,
    ⟨.mov (.tmp 20), some 4, none⟩])
  (.ret)))⟩
theorem ok_spec_l01Joint : cmpF Try.prog Try.f108 = some c_spec_l01Joint := by kernel_rfl

/- spec.l04Site -/
def c_spec_l04Site : FV := ⟨18, [.tmp 2],
  .seq (.ops [⟨.box 61 (.tmp 0), some 1, none⟩,
    ⟨.mov (.const (.bool false)), some 2, none⟩])
  (.seq (.ops [⟨.addr (.tmp 1) 0, some 3, none⟩,
    ⟨.load (some 3) (.tmp 3), some 4, none⟩,
    ⟨.call 106 [.tmp 4], some 5, none⟩,
    ⟨.mov (.tmp 5), some 6, none⟩,
    ⟨.addr (.tmp 1) 3, some 7, some (6, true)⟩,
    ⟨.load none (.tmp 7), some 8, some (6, true)⟩,
    ⟨.convI .i64 (.tmp 8), some 9, some (6, true)⟩,
    ⟨.call 140 [.tmp 9], some 10, some (6, true)⟩,
    ⟨.pick (.tmp 6) (.tmp 10) (.const (.bool false)), some 11, none⟩,
    ⟨.mov (.tmp 11), some 12, none⟩,
    ⟨.addr (.tmp 1) 4, some 13, some (12, true)⟩,
    ⟨.load none (.tmp 13), some 14, some (12, true)⟩,
    ⟨.convI .i64 (.tmp 14), some 15, some (12, true)⟩,
    ⟨.call 140 [.tmp 15], some 16, some (12, true)⟩,
    ⟨.pick (.tmp 12) (.tmp 16) (.const (.bool false)), some 17, none⟩,
    ⟨.mov (.tmp 17), some 2, none⟩])
  (.ret))⟩
theorem ok_spec_l04Site : cmpF Try.prog Try.f109 = some c_spec_l04Site := by kernel_rfl

/- spec.l05Keep -/
def c_spec_l05Keep : FV := ⟨25, [.tmp 6],
  .seq (.ops [⟨.mov (.const (.bool false)), some 6, none⟩])
  (.seq (.ops [⟨.mov (.tmp 0), some 7, none⟩,
    ⟨.call 93 [.tmp 7], some 8, none⟩,
    ⟨.mov (.tmp 8), some 9, none⟩,
    ⟨.mov (.tmp 0), some 10, some (9, true)⟩,
    ⟨.fbin .geq (.tmp 10) (.const (.float .f32 0)), some 11, some (9, true)⟩,
    ⟨.pick (.tmp 9) (.tmp 11) (.const (.bool false)), some 12, none⟩,
    ⟨.mov (.tmp 12), some 13, none⟩,
    ⟨.mov (.tmp 1), some 14, some (13, true)⟩,
    ⟨.fbin .geq (.tmp 14) (.const (.float .f32 0)), some 15, some (13, true)⟩,
    ⟨.pick (.tmp 13) (.tmp 15) (.const (.bool false)), some 16, none⟩,
    ⟨.mov (.tmp 16), some 17, none⟩,
    ⟨.mov (.tmp 1), some 18, some (17, true)⟩,
    ⟨.fbin .leq (.tmp 18) (.const (.float .f32 1065353216)), some 19, some (17, true)⟩,
    ⟨.pick (.tmp 17) (.tmp 19) (.const (.bool false)), some 20, none⟩,
    ⟨.mov (.tmp 20), some 21, none⟩,
    ⟨.mov (.tmp 2), some 22, some (21, true)⟩,
    ⟨.call 95 [.tmp 22, .const (.int .i64 0), .const (.int .i64 1000)], some 23, some (21, true)⟩,
    ⟨.pick (.tmp 21) (.tmp 23) (.const (.bool false)), some 24, none⟩,
    ⟨.mov (.tmp 24), some 6, none⟩])
  (.ret))⟩
theorem ok_spec_l05Keep : cmpF Try.prog Try.f110 = some c_spec_l05Keep := by kernel_rfl

/- impl.decayOk -/
def c_impl_decayOk : FV := ⟨21, [.tmp 6],
  .seq (.ops [⟨.mov (.const (.bool false)), some 6, none⟩])
  (.seq (.ops [⟨.mov (.tmp 0), some 7, none⟩,
    ⟨.call 142 [.tmp 7], some 8, none⟩,
    ⟨.mov (.tmp 8), some 9, none⟩,
    ⟨.mov (.tmp 1), some 10, some (9, true)⟩,
    ⟨.fbin .geq (.tmp 10) (.const (.float .f32 0)), some 11, some (9, true)⟩,
    ⟨.pick (.tmp 9) (.tmp 11) (.const (.bool false)), some 12, none⟩,
    ⟨.mov (.tmp 12), some 13, none⟩,
    ⟨.mov (.tmp 1), some 14, some (13, true)⟩,
    ⟨.fbin .leq (.tmp 14) (.const (.float .f32 1065353216)), some 15, some (13, true)⟩,
    ⟨.pick (.tmp 13) (.tmp 15) (.const (.bool false)), some 16, none⟩,
    ⟨.mov (.tmp 16), some 17, none⟩,
    ⟨.mov (.tmp 2), some 18, some (17, true)⟩,
    ⟨.call 143 [.tmp 18], some 19, some (17, true)⟩,
    ⟨.pick (.tmp 17) (.tmp 19) (.const (.bool false)), some 20, none⟩,
    ⟨.mov (.tmp 20), some 6, none⟩])
  (.ret))⟩
theorem ok_impl_decayOk : cmpF Try.prog Try.f111 = some c_impl_decayOk := by kernel_rfl

/- spec.l05Decay -/
def c_spec_l05Decay : FV := ⟨17, [.tmp 6],
  .seq (.ops [⟨.mov (.const (.float .f32 0)), some 6, none⟩])
  (.seq (.seq (.ops [⟨.mov (.const (.int .i64 0)), some 7, none⟩])
  (.block 0 (.loop (.seq (.seq (.ops [⟨.mov (.tmp 7), some 8, none⟩,
    ⟨.mov (.tmp 2), some 9, none⟩,
    ⟨.bin .lss (.tmp 8) (.tmp 9), some 10, none⟩])
  (.cond (.tmp 10) (.skip) (.exit 0)))
  (.seq (.block 1 (.ops [⟨.mov (.tmp 0), some 13, none⟩,
    ⟨.mov (.tmp 1), some 14, none⟩,
    ⟨.fbin .mul (.tmp 13) (.tmp 14), some 15, none⟩,
    ⟨.mov (.tmp 15), some 0, none⟩]))
  (.ops [⟨.mov (.tmp 7), some 11, none⟩,
    ⟨.bin .add (.tmp 11) (.const (.int .i64 1)), some 12, none⟩,
    ⟨.mov (.tmp 12), some 7, none⟩]))))))
  (.seq (.ops [⟨.mov (.tmp 0), some 16, none⟩,
    ⟨.mov (.tmp 16), some 6, none⟩])
  (.ret)))⟩
theorem ok_spec_l05Decay : cmpF Try.prog Try.f112 = some c_spec_l05Decay := by kernel_rfl

/- impl.decayed -/
def c_impl_decayed : FV := ⟨15, [.tmp 6],
  .seq (.ops [⟨.mov (.const (.float .f32 0)), some 6, none⟩])
  (.seq (.seq (.ops [⟨.mov (.tmp 2), some 7, none⟩,
    ⟨.mov (.const (.int .i64 0)), some 8, none⟩])
  (.block 0 (.loop (.seq (.ops [⟨.bin .lss (.tmp 8) (.tmp 7), some 9, none⟩])
  (.seq (.cond (.tmp 9) (.skip) (.exit 0))
  (.seq (.block 1 (.ops [⟨.mov (.tmp 0), some 10, none⟩,
    ⟨.mov (.tmp 1), some 11, none⟩,
    ⟨.fbin .mul (.tmp 10) (.tmp 11), some 12, none⟩,
    ⟨.mov (.tmp 12), some 0, none⟩]))
  (.ops [⟨.bin .add (.tmp 8) (.const (.int .i64 1)), some 13, none⟩,
    ⟨.mov (.tmp 13), some 8, none⟩])))))))
  (.seq (.ops [⟨.mov (.tmp 0), some 14, none⟩,
    ⟨.mov (.tmp 14), some 6, none⟩])
  (.ret)))⟩
theorem ok_impl_decayed : cmpF Try.prog Try.f113 = some c_impl_decayed := by kernel_rfl

/- spec.l03Ratio -/
def c_spec_l03Ratio : FV := ⟨10, [.tmp 4],
  .seq (.ops [⟨.mov (.const (.float .f32 0)), some 4, none⟩])
  (.seq (.ops [⟨.mov (.tmp 0), some 5, none⟩,
    ⟨.convF .f32 (.tmp 5), some 6, none⟩,
    ⟨.mov (.tmp 1), some 7, none⟩,
    ⟨.convF .f32 (.tmp 7), some 8, none⟩,
    ⟨.fbin .quo (.tmp 6) (.tmp 8), some 9, none⟩,
    ⟨.mov (.tmp 9), some 4, none⟩])
  (.ret))⟩
theorem ok_spec_l03Ratio : cmpF Try.prog Try.f114 = some c_spec_l03Ratio := by kernel_rfl

/- impl.fourPi -/
def c_impl_fourPi : FV := ⟨1, [.tmp 0],
  .seq (.ops [⟨.mov (.const (.float .f32 0)), some 0, none⟩])
  (.seq (.ops [⟨.mov (.const (.float .f32 1095307227)), some 0, none⟩])
  (.ret))⟩
theorem ok_impl_fourPi : cmpF Try.prog Try.f115 = some c_impl_fourPi := by kernel_rfl

/- laws.eqReading -/
def c_laws_eqReading : FV := ⟨15, [.tmp 4],
  .seq (.ops [⟨.box 38 (.tmp 0), some 2, none⟩,
    ⟨.box 38 (.tmp 1), some 3, none⟩,
    ⟨.mov (.const (.bool false)), some 4, none⟩])
  (.seq (.seq (.ops [⟨.addr (.tmp 2) 0, some 5, none⟩,
    ⟨.load none (.tmp 5), some 6, none⟩,
    ⟨.addr (.tmp 3) 0, some 7, none⟩,
    ⟨.load none (.tmp 7), some 8, none⟩,
    ⟨.bin .neq (.tmp 6) (.tmp 8), some 9, none⟩])
  (.cond (.tmp 9) (.seq (.ops [⟨.mov (.const (.bool false)), some 4, none⟩])
  (.ret)) (.skip)))
  (.seq (.seq (.ops [⟨.addr (.tmp 2) 1, some 10, none⟩,
    ⟨.load none (.tmp 10), some 11, none⟩,
    ⟨.addr (.tmp 3) 1, some 12, none⟩,
    ⟨.load none (.tmp 12), some 13, none⟩,
    ⟨.bin .neq (.tmp 11) (.tmp 13), some 14, none⟩])
  (.cond (.tmp 14) (.seq (.ops [⟨.mov (.const (.bool false)), some 4, none⟩])
  (.ret)) (.skip)))
  (.seq (.ops [⟨.mov (.const (.bool true)), some 4, none⟩])
  (.ret))))⟩
theorem ok_laws_eqReading : cmpF Try.prog Try.f117 = some c_laws_eqReading := by kernel_rfl

/- spec.l03Image -/
def c_spec_l03Image : FV := ⟨37, [.cell 6 (some 3), .tmp 7],
  .seq (.ops [⟨.box 53 (.tmp 0), some 3, none⟩,
    ⟨.alloc 53 (.agg (#[.int .i8 0, .int .i8 0, .float .f32 0])), some 6, none⟩,
    ⟨.mov (.const (.int .i64 0)), some 7, none⟩])
  (.seq (.ops [⟨.mov (.tmp 1), some 10, none⟩,
    ⟨.addr (.tmp 3) 0, some 11, none⟩,
    ⟨.load none (.tmp 11), some 12, none⟩,
    ⟨.convI .i64 (.tmp 12), some 13, none⟩,
    ⟨.bin .sub (.tmp 10) (.tmp 13), some 14, none⟩,
    ⟨.mov (.tmp 14), some 8, none⟩])
  (.seq (.seq (.ops [⟨.mov (.tmp 1), some 15, none⟩,
    ⟨.call 95 [.tmp 15, .const (.int .i64 (-400)), .const (.int .i64 400)], some 16, none⟩,
    ⟨.un .not (.tmp 16), some 17, none⟩,
    ⟨.mov (.tmp 17), some 18, none⟩,
    ⟨.mov (.tmp 8), some 19, some (18, false)⟩,
    ⟨.call 140 [.tmp 19], some 20, some (18, false)⟩,
    ⟨.un .not (.tmp 20), some 21, some (18, false)⟩,
    ⟨.pick (.tmp 18) (.const (.bool true)) (.tmp 21), some 22, none⟩])
  (.cond (.tmp 22) (.seq (.ops [⟨.build [(0, 1), (1, 1), (2, 1)] (#[.int .i8 0, .int .i8 0, .float .f32 0]) [], some 23, none⟩,
    ⟨.store 3 (.tmp 6) (.tmp 23), none, none⟩,
    ⟨.mov (.const (.int .i64 2)), some 7, none⟩])
  (.ret)) (.skip)))
  (.seq (.ops [⟨.mov (.tmp 8), some 24, none⟩,
    ⟨.convI .i8 (.tmp 24), some 25, none⟩,
    ⟨.addr (.tmp 3) 1, some 26, none⟩,
    ⟨.load none (.tmp 26), some 27, none⟩,
    ⟨.addr (.tmp 3) 2, some 28, none⟩,
    ⟨.load none (.tmp 28), some 29, none⟩,
    ⟨.build [(0, 1), (1, 1), (2, 1)] (#[.int .i8 0, .int .i8 0, .float .f32 0]) [(0, .tmp 25), (1, .tmp 27), (2, .tmp 29)], some 30, none⟩,
    ⟨.alloc 53 (.agg (#[.int .i8 0, .int .i8 0, .float .f32 0])), some 9, none⟩,
    ⟨.store 3 (.tmp 9) (.tmp 30), none, none⟩])
  (.seq (.seq (.ops [⟨.mov (.tmp 2), some 31, none⟩])
  (.cond (.tmp 31) (.ops [⟨.addr (.tmp 3) 2, some 32, none⟩,
    ⟨.load none (.tmp 32), some 33, none⟩,
    ⟨.un .neg (.tmp 33), some 34, none⟩,
    ⟨.addr (.tmp 9) 2, some 35, none⟩,
    ⟨.store 1 (.tmp 35) (.tmp 34), none, none⟩]) (.skip)))
  (.seq (.ops [⟨.load (some 3) (.tmp 9), some 36, none⟩,
    ⟨.store 3 (.tmp 6) (.tmp 36), none, none⟩,
    ⟨.mov (.const (.int .i64 0)), some 7, none⟩])
  (.ret))))))⟩
theorem ok_spec_l03Image : cmpF Try.prog Try.f118 = some c_spec_l03Image := by kernel_rfl

end Go.Proofs.Ytainhignhmmhlaa
