/- The code of the Go functions in the generator's own form, printed by a program of mine (gen.py) out of the loaded program; each with the check that it is so. -/
import Derived.Test.YtkjlndflcfboeaaVcFn
import Derived.Test.YtkjlndflcfboeaaGeo
import Derived.Test.YtkjlndflcfboeaaRows
import Derived.KernelRfl
namespace Go.Proofs.Ytkjlndflcfboeaa
open Go Go.Fl Go.Vc
set_option linter.all false
set_option maxRecDepth 100000

/- impl.LineThrough -/
def c_impl_LineThrough : FV := ⟨109, [.tmp 2, .tmp 3, .tmp 4],
  .seq (.ops [⟨.mov (.const (.float .f32 0)), some 2, none⟩,
    ⟨.mov (.const (.float .f32 0)), some 3, none⟩,
    ⟨.mov (.const (.int .i64 0)), some 4, none⟩])
  (.seq (.block 0 (.seq (.ops [⟨.mov (.tmp 0), some 20, none⟩,
    ⟨.call 31 [.tmp 20], some 21, none⟩,
    ⟨.un .not (.tmp 21), some 22, none⟩,
    ⟨.mov (.tmp 22), some 19, none⟩])
  (.cond (.tmp 19) (.seq (.ops [⟨.mov (.const (.float .f32 0)), some 2, none⟩,
    ⟨.mov (.const (.float .f32 0)), some 3, none⟩,
    ⟨.mov (.const (.int .i64 1)), some 4, none⟩])
  (.ret)) (.seq (.ops [⟨.mov (.tmp 0), some 24, none⟩,
    ⟨.lenL (.tmp 24), some 25, none⟩,
    ⟨.bin .lss (.tmp 25) (.const (.int .i64 2)), some 26, none⟩,
    ⟨.mov (.tmp 26), some 23, none⟩])
  (.cond (.tmp 23) (.seq (.ops [⟨.mov (.const (.float .f32 0)), some 2, none⟩,
    ⟨.mov (.const (.float .f32 0)), some 3, none⟩,
    ⟨.mov (.const (.int .i64 6)), some 4, none⟩])
  (.ret)) (.skip))))))
  (.seq (.ops [⟨.bslice 33 1 0 (#[.float .f32 0]) [], some 27, none⟩,
    ⟨.bslice 33 1 0 (#[.float .f32 0]) [], some 28, none⟩,
    ⟨.bslice 33 1 0 (#[.float .f32 0]) [], some 29, none⟩,
    ⟨.bslice 33 1 0 (#[.float .f32 0]) [], some 30, none⟩,
    ⟨.mov (.tmp 27), some 5, none⟩,
    ⟨.mov (.tmp 28), some 6, none⟩,
    ⟨.mov (.tmp 29), some 7, none⟩,
    ⟨.mov (.tmp 30), some 8, none⟩])
  (.seq (.seq (.ops [⟨.mov (.tmp 0), some 31, none⟩,
    ⟨.lenL (.tmp 31), some 32, none⟩,
    ⟨.mov (.const (.int .i64 0)), some 33, none⟩])
  (.block 1 (.loop (.seq (.ops [⟨.bin .lss (.tmp 33) (.tmp 32), some 34, none⟩])
  (.seq (.cond (.tmp 34) (.skip) (.exit 1))
  (.seq (.block 2 (.seq (.ops [⟨.idxS 2 (.tmp 31) (.tmp 33), some 35, none⟩,
    ⟨.load (some 2) (.tmp 35), some 36, none⟩,
    ⟨.alloc 58 (.agg (#[.int .i64 0, .int .i16 0])), some 10, none⟩,
    ⟨.store 2 (.tmp 10) (.tmp 36), none, none⟩])
  (.seq (.bops [⟨.load (some 2) (.tmp 10), some 37, none⟩,
    ⟨.call 32 [.tmp 37], some 38, none⟩,
    ⟨.load (some 2) (.tmp 10), some 39, none⟩,
    ⟨.call 33 [.tmp 39], some 40, none⟩,
    ⟨.mov (.tmp 38), some 11, none⟩,
    ⟨.mov (.tmp 40), some 12, none⟩])
  (.ops [⟨.mov (.tmp 5), some 41, none⟩,
    ⟨.mov (.tmp 11), some 42, none⟩,
    ⟨.bslice 33 1 1 (#[.float .f32 0]) [(0, .tmp 42)], some 43, none⟩,
    ⟨.app 33 1 (.tmp 41) (.tmp 43), some 44, none⟩,
    ⟨.mov (.tmp 6), some 45, none⟩,
    ⟨.mov (.tmp 12), some 46, none⟩,
    ⟨.bslice 33 1 1 (#[.float .f32 0]) [(0, .tmp 46)], some 47, none⟩,
    ⟨.app 33 1 (.tmp 45) (.tmp 47), some 48, none⟩,
    ⟨.mov (.tmp 7), some 49, none⟩,
    ⟨.mov (.tmp 11), some 50, none⟩,
    ⟨.mov (.tmp 11), some 51, none⟩,
    ⟨.fbin .mul (.tmp 50) (.tmp 51), some 52, none⟩,
    ⟨.bslice 33 1 1 (#[.float .f32 0]) [(0, .tmp 52)], some 53, none⟩,
    ⟨.app 33 1 (.tmp 49) (.tmp 53), some 54, none⟩,
    ⟨.mov (.tmp 8), some 55, none⟩,
    ⟨.mov (.tmp 11), some 56, none⟩,
    ⟨.mov (.tmp 12), some 57, none⟩,
    ⟨.fbin .mul (.tmp 56) (.tmp 57), some 58, none⟩,
    ⟨.bslice 33 1 1 (#[.float .f32 0]) [(0, .tmp 58)], some 59, none⟩,
    ⟨.app 33 1 (.tmp 55) (.tmp 59), some 60, none⟩,
    ⟨.mov (.tmp 44), some 5, none⟩,
    ⟨.mov (.tmp 48), some 6, none⟩,
    ⟨.mov (.tmp 54), some 7, none⟩,
    ⟨.mov (.tmp 60), some 8, none⟩]))))
  (.ops [⟨.bin .add (.tmp 33) (.const (.int .i64 1)), some 61, none⟩,
    ⟨.mov (.tmp 61), some 33, none⟩])))))))
  (.seq (.ops [⟨.mov (.tmp 0), some 62, none⟩,
    ⟨.lenL (.tmp 62), some 63, none⟩,
    ⟨.convF .f32 (.tmp 63), some 64, none⟩,
    ⟨.mov (.tmp 5), some 65, none⟩,
    ⟨.call 34 [.tmp 65], some 66, none⟩,
    ⟨.mov (.tmp 6), some 67, none⟩,
    ⟨.call 34 [.tmp 67], some 68, none⟩,
    ⟨.mov (.tmp 64), some 13, none⟩,
    ⟨.mov (.tmp 66), some 14, none⟩,
    ⟨.mov (.tmp 68), some 15, none⟩])
  (.seq (.ops [⟨.mov (.tmp 13), some 69, none⟩,
    ⟨.mov (.tmp 7), some 70, none⟩,
    ⟨.call 34 [.tmp 70], some 71, none⟩,
    ⟨.fbin .mul (.tmp 69) (.tmp 71), some 72, none⟩,
    ⟨.mov (.tmp 14), some 73, none⟩,
    ⟨.mov (.tmp 14), some 74, none⟩,
    ⟨.fbin .mul (.tmp 73) (.tmp 74), some 75, none⟩,
    ⟨.fbin .sub (.tmp 72) (.tmp 75), some 76, none⟩,
    ⟨.mov (.tmp 76), some 16, none⟩])
  (.seq (.ops [⟨.mov (.tmp 13), some 77, none⟩,
    ⟨.mov (.tmp 8), some 78, none⟩,
    ⟨.call 34 [.tmp 78], some 79, none⟩,
    ⟨.fbin .mul (.tmp 77) (.tmp 79), some 80, none⟩,
    ⟨.mov (.tmp 14), some 81, none⟩,
    ⟨.mov (.tmp 15), some 82, none⟩,
    ⟨.fbin .mul (.tmp 81) (.tmp 82), some 83, none⟩,
    ⟨.fbin .sub (.tmp 80) (.tmp 83), some 84, none⟩,
    ⟨.mov (.tmp 16), some 85, none⟩,
    ⟨.fbin .quo (.tmp 84) (.tmp 85), some 86, none⟩,
    ⟨.mov (.tmp 86), some 17, none⟩])
  (.seq (.ops [⟨.mov (.tmp 15), some 87, none⟩,
    ⟨.mov (.tmp 17), some 88, none⟩,
    ⟨.mov (.tmp 14), some 89, none⟩,
    ⟨.fbin .mul (.tmp 88) (.tmp 89), some 90, none⟩,
    ⟨.fbin .sub (.tmp 87) (.tmp 90), some 91, none⟩,
    ⟨.mov (.tmp 13), some 92, none⟩,
    ⟨.fbin .quo (.tmp 91) (.tmp 92), some 93, none⟩,
    ⟨.mov (.tmp 93), some 18, none⟩])
  (.seq (.seq (.ops [⟨.mov (.tmp 16), some 94, none⟩,
    ⟨.fbin .gtr (.tmp 94) (.const (.float .f32 0)), some 95, none⟩,
    ⟨.un .not (.tmp 95), some 96, none⟩,
    ⟨.mov (.tmp 96), some 97, none⟩,
    ⟨.mov (.tmp 17), some 98, some (97, false)⟩,
    ⟨.call 35 [.tmp 98], some 99, some (97, false)⟩,
    ⟨.un .not (.tmp 99), some 100, some (97, false)⟩,
    ⟨.pick (.tmp 97) (.const (.bool true)) (.tmp 100), some 101, none⟩,
    ⟨.mov (.tmp 101), some 102, none⟩,
    ⟨.mov (.tmp 18), some 103, some (102, false)⟩,
    ⟨.call 35 [.tmp 103], some 104, some (102, false)⟩,
    ⟨.un .not (.tmp 104), some 105, some (102, false)⟩,
    ⟨.pick (.tmp 102) (.const (.bool true)) (.tmp 105), some 106, none⟩])
  (.cond (.tmp 106) (.seq (.ops [⟨.mov (.const (.float .f32 0)), some 2, none⟩,
    ⟨.mov (.const (.float .f32 0)), some 3, none⟩,
    ⟨.mov (.const (.int .i64 4)), some 4, none⟩])
  (.ret)) (.skip)))
  (.seq (.ops [⟨.mov (.tmp 18), some 107, none⟩,
    ⟨.mov (.tmp 17), some 108, none⟩,
    ⟨.mov (.tmp 107), some 2, none⟩,
    ⟨.mov (.tmp 108), some 3, none⟩,
    ⟨.mov (.const (.int .i64 0)), some 4, none⟩])
  (.ret))))))))))⟩
theorem ok_impl_LineThrough : cmpF Try.prog Try.f15 = some c_impl_LineThrough := by kernel_rfl

/- laws.sameFloat -/
def c_laws_sameFloat : FV := ⟨37, [.tmp 4],
  .seq (.ops [⟨.mov (.const (.bool false)), some 4, none⟩])
  (.seq (.seq (.ops [⟨.mov (.tmp 0), some 5, none⟩,
    ⟨.mov (.tmp 0), some 6, none⟩,
    ⟨.fbin .neq (.tmp 5) (.tmp 6), some 7, none⟩,
    ⟨.mov (.tmp 7), some 8, none⟩,
    ⟨.mov (.tmp 1), some 9, some (8, false)⟩,
    ⟨.mov (.tmp 1), some 10, some (8, false)⟩,
    ⟨.fbin .neq (.tmp 9) (.tmp 10), some 11, some (8, false)⟩,
    ⟨.pick (.tmp 8) (.const (.bool true)) (.tmp 11), some 12, none⟩])
  (.cond (.tmp 12) (.seq (.ops [⟨.mov (.tmp 0), some 13, none⟩,
    ⟨.mov (.tmp 0), some 14, none⟩,
    ⟨.fbin .neq (.tmp 13) (.tmp 14), some 15, none⟩,
    ⟨.mov (.tmp 15), some 16, none⟩,
    ⟨.mov (.tmp 1), some 17, some (16, true)⟩,
    ⟨.mov (.tmp 1), some 18, some (16, true)⟩,
    ⟨.fbin .neq (.tmp 17) (.tmp 18), some 19, some (16, true)⟩,
    ⟨.pick (.tmp 16) (.tmp 19) (.const (.bool false)), some 20, none⟩,
    ⟨.mov (.tmp 20), some 4, none⟩])
  (.ret)) (.skip)))
  (.seq (.seq (.ops [⟨.mov (.tmp 0), some 21, none⟩,
    ⟨.fbin .eql (.tmp 21) (.const (.float .f64 0)), some 22, none⟩,
    ⟨.mov (.tmp 22), some 23, none⟩,
    ⟨.mov (.tmp 1), some 24, some (23, true)⟩,
    ⟨.fbin .eql (.tmp 24) (.const (.float .f64 0)), some 25, some (23, true)⟩,
    ⟨.pick (.tmp 23) (.tmp 25) (.const (.bool false)), some 26, none⟩])
  (.cond (.tmp 26) (.seq (.ops [⟨.mov (.tmp 0), some 27, none⟩,
    ⟨.fbin .quo (.const (.float .f64 4607182418800017408)) (.tmp 27), some 28, none⟩,
    ⟨.fbin .gtr (.tmp 28) (.const (.float .f64 0)), some 29, none⟩,
    ⟨.mov (.tmp 1), some 30, none⟩,
    ⟨.fbin .quo (.const (.float .f64 4607182418800017408)) (.tmp 30), some 31, none⟩,
    ⟨.fbin .gtr (.tmp 31) (.const (.float .f64 0)), some 32, none⟩,
    ⟨.beq false (.tmp 29) (.tmp 32), some 33, none⟩,
    ⟨.mov (.tmp 33), some 4, none⟩])
  (.ret)) (.skip)))
  (.seq (.ops [⟨.mov (.tmp 0), some 34, none⟩,
    ⟨.mov (.tmp 1), some 35, none⟩,
    ⟨.fbin .eql (.tmp 34) (.tmp 35), some 36, none⟩,
    ⟨.mov (.tmp 36), some 4, none⟩])
  (.ret))))⟩
theorem ok_laws_sameFloat : cmpF Try.prog Try.f16 = some c_laws_sameFloat := by kernel_rfl

/- laws.eqReadingS -/
def c_laws_eqReadingS : FV := ⟨27, [.tmp 4],
  .seq (.ops [⟨.mov (.const (.bool false)), some 4, none⟩])
  (.seq (.seq (.ops [⟨.mov (.tmp 0), some 6, none⟩,
    ⟨.lenL (.tmp 6), some 7, none⟩,
    ⟨.mov (.tmp 1), some 8, none⟩,
    ⟨.lenL (.tmp 8), some 9, none⟩,
    ⟨.bin .neq (.tmp 7) (.tmp 9), some 10, none⟩])
  (.cond (.tmp 10) (.seq (.ops [⟨.mov (.const (.bool false)), some 4, none⟩])
  (.ret)) (.skip)))
  (.seq (.seq (.ops [⟨.mov (.const (.int .i64 0)), some 5, none⟩])
  (.block 0 (.loop (.seq (.seq (.ops [⟨.mov (.tmp 5), some 11, none⟩,
    ⟨.mov (.tmp 0), some 12, none⟩,
    ⟨.lenL (.tmp 12), some 13, none⟩,
    ⟨.bin .lss (.tmp 11) (.tmp 13), some 14, none⟩])
  (.cond (.tmp 14) (.skip) (.exit 0)))
  (.seq (.block 1 (.seq (.ops [⟨.mov (.tmp 0), some 17, none⟩,
    ⟨.mov (.tmp 5), some 18, none⟩,
    ⟨.idxS 2 (.tmp 17) (.tmp 18), some 19, none⟩,
    ⟨.load (some 2) (.tmp 19), some 20, none⟩,
    ⟨.mov (.tmp 1), some 21, none⟩,
    ⟨.mov (.tmp 5), some 22, none⟩,
    ⟨.idxS 2 (.tmp 21) (.tmp 22), some 23, none⟩,
    ⟨.load (some 2) (.tmp 23), some 24, none⟩,
    ⟨.call 36 [.tmp 20, .tmp 24], some 25, none⟩,
    ⟨.un .not (.tmp 25), some 26, none⟩])
  (.cond (.tmp 26) (.seq (.ops [⟨.mov (.const (.bool false)), some 4, none⟩])
  (.ret)) (.skip))))
  (.ops [⟨.mov (.tmp 5), some 15, none⟩,
    ⟨.bin .add (.tmp 15) (.const (.int .i64 1)), some 16, none⟩,
    ⟨.mov (.tmp 16), some 5, none⟩]))))))
  (.seq (.ops [⟨.mov (.const (.bool true)), some 4, none⟩])
  (.ret))))⟩
theorem ok_laws_eqReadingS : cmpF Try.prog Try.f17 = some c_laws_eqReadingS := by kernel_rfl

/- spec.l03Ok -/
def c_spec_l03Ok : FV := ⟨18, [.tmp 2],
  .seq (.ops [⟨.box 45 (.tmp 0), some 1, none⟩,
    ⟨.mov (.const (.bool false)), some 2, none⟩])
  (.seq (.ops [⟨.addr (.tmp 1) 0, some 3, none⟩,
    ⟨.load none (.tmp 3), some 4, none⟩,
    ⟨.convI .i64 (.tmp 4), some 5, none⟩,
    ⟨.call 37 [.tmp 5], some 6, none⟩,
    ⟨.mov (.tmp 6), some 7, none⟩,
    ⟨.addr (.tmp 1) 1, some 8, some (7, true)⟩,
    ⟨.load none (.tmp 8), some 9, some (7, true)⟩,
    ⟨.convI .i64 (.tmp 9), some 10, some (7, true)⟩,
    ⟨.call 37 [.tmp 10], some 11, some (7, true)⟩,
    ⟨.pick (.tmp 7) (.tmp 11) (.const (.bool false)), some 12, none⟩,
    ⟨.mov (.tmp 12), some 13, none⟩,
    ⟨.addr (.tmp 1) 2, some 14, some (13, true)⟩,
    ⟨.load none (.tmp 14), some 15, some (13, true)⟩,
    ⟨.call 38 [.tmp 15], some 16, some (13, true)⟩,
    ⟨.pick (.tmp 13) (.tmp 16) (.const (.bool false)), some 17, none⟩,
    ⟨.mov (.tmp 17), some 2, none⟩])
  (.ret))⟩
theorem ok_spec_l03Ok : cmpF Try.prog Try.f18 = some c_spec_l03Ok := by kernel_rfl

/- spec.ImageOf -/
def c_spec_ImageOf : FV := ⟨22, [.cell 6 (some 3), .tmp 7],
  .seq (.ops [⟨.box 45 (.tmp 0), some 3, none⟩,
    ⟨.alloc 45 (.agg (#[.int .i8 0, .int .i8 0, .float .f32 0])), some 6, none⟩,
    ⟨.mov (.const (.int .i64 0)), some 7, none⟩])
  (.seq (.seq (.ops [⟨.load (some 3) (.tmp 3), some 8, none⟩,
    ⟨.call 18 [.tmp 8], some 9, none⟩,
    ⟨.un .not (.tmp 9), some 10, none⟩])
  (.cond (.tmp 10) (.seq (.ops [⟨.build [(0, 1), (1, 1), (2, 1)] (#[.int .i8 0, .int .i8 0, .float .f32 0]) [], some 11, none⟩,
    ⟨.store 3 (.tmp 6) (.tmp 11), none, none⟩,
    ⟨.mov (.const (.int .i64 1)), some 7, none⟩])
  (.ret)) (.skip)))
  (.seq (.seq (.ops [⟨.mov (.tmp 1), some 12, none⟩,
    ⟨.call 39 [.tmp 12, .const (.int .i64 (-400)), .const (.int .i64 400)], some 13, none⟩,
    ⟨.un .not (.tmp 13), some 14, none⟩])
  (.cond (.tmp 14) (.seq (.ops [⟨.build [(0, 1), (1, 1), (2, 1)] (#[.int .i8 0, .int .i8 0, .float .f32 0]) [], some 15, none⟩,
    ⟨.store 3 (.tmp 6) (.tmp 15), none, none⟩,
    ⟨.mov (.const (.int .i64 2)), some 7, none⟩])
  (.ret)) (.skip)))
  (.seq (.ops [⟨.load (some 3) (.tmp 3), some 16, none⟩,
    ⟨.mov (.tmp 1), some 17, none⟩,
    ⟨.mov (.tmp 2), some 18, none⟩,
    ⟨.call 40 [.tmp 16, .tmp 17, .tmp 18], some 19, none⟩,
    ⟨.ext (.tmp 19) 0, some 20, none⟩,
    ⟨.ext (.tmp 19) 1, some 21, none⟩,
    ⟨.store 3 (.tmp 6) (.tmp 20), none, none⟩,
    ⟨.mov (.tmp 21), some 7, none⟩])
  (.ret))))⟩
theorem ok_spec_ImageOf : cmpF Try.prog Try.f19 = some c_spec_ImageOf := by kernel_rfl

/- laws.toWell -/
def c_laws_toWell : FV := ⟨14, [.cell 2 (some 3)],
  .seq (.ops [⟨.box 49 (.tmp 0), some 1, none⟩,
    ⟨.alloc 45 (.agg (#[.int .i8 0, .int .i8 0, .float .f32 0])), some 2, none⟩])
  (.seq (.ops [⟨.alloc 45 (.agg (#[.int .i8 0, .int .i8 0, .float .f32 0])), some 3, none⟩])
  (.seq (.ops [⟨.addr (.tmp 1) 0, some 4, none⟩,
    ⟨.load none (.tmp 4), some 5, none⟩,
    ⟨.addr (.tmp 3) 0, some 6, none⟩,
    ⟨.store 1 (.tmp 6) (.tmp 5), none, none⟩])
  (.seq (.ops [⟨.addr (.tmp 1) 1, some 7, none⟩,
    ⟨.load none (.tmp 7), some 8, none⟩,
    ⟨.addr (.tmp 3) 1, some 9, none⟩,
    ⟨.store 1 (.tmp 9) (.tmp 8), none, none⟩])
  (.seq (.ops [⟨.addr (.tmp 1) 2, some 10, none⟩,
    ⟨.load none (.tmp 10), some 11, none⟩,
    ⟨.addr (.tmp 3) 2, some 12, none⟩,
    ⟨.store 1 (.tmp 12) (.tmp 11), none, none⟩])
  (.seq (.ops [⟨.load (some 3) (.tmp 3), some 13, none⟩,
    ⟨.store 3 (.tmp 2) (.tmp 13), none, none⟩])
  (.ret))))))⟩
theorem ok_laws_toWell : cmpF Try.prog Try.f20 = some c_laws_toWell := by kernel_rfl

/- slices.ContainsFunc[[]impl.Well,impl.Well] -/
def c_slices_ContainsFunc___impl_Well_impl_Well : FV := ⟨9, [.tmp 4],
  .seq (.ops [⟨.mov (.const (.bool false)), some 4, none⟩])
  (.seq (.ops [⟨.mov (.tmp 0), some 5, none⟩,
    ⟨.mov (.tmp 1), some 6, none⟩,
    ⟨.call 41 [.tmp 5, .tmp 6], some 7, none⟩,
    ⟨.bin .geq (.tmp 7) (.const (.int .i64 0)), some 8, none⟩,
    ⟨.mov (.tmp 8), some 4, none⟩])
  (.ret))⟩
theorem ok_slices_ContainsFunc___impl_Well_impl_Well : cmpF Try.prog Try.f21 = some c_slices_ContainsFunc___impl_Well_impl_Well := by kernel_rfl

/- impl.badWell -/
def c_impl_badWell : FV := ⟨6, [.tmp 2],
  .seq (.ops [⟨.box 45 (.tmp 0), some 1, none⟩,
    ⟨.mov (.const (.bool false)), some 2, none⟩])
  (.seq (.ops [⟨.load (some 3) (.tmp 1), some 3, none⟩,
    ⟨.call 42 [.tmp 3], some 4, none⟩,
    ⟨.un .not (.tmp 4), some 5, none⟩,
    ⟨.mov (.tmp 5), some 2, none⟩])
  (.ret))⟩
theorem ok_impl_badWell : cmpF Try.prog Try.f22 = some c_impl_badWell := by kernel_rfl

/- slices.Clone[[]impl.Well,impl.Well] -/
def c_slices_Clone___impl_Well_impl_Well : FV := ⟨8, [.tmp 2],
  .seq (.ops [⟨.mov (.const (.slice none 0 0)), some 2, none⟩])
  (.seq (.seq (.ops [⟨.mov (.tmp 0), some 3, none⟩,
    ⟨.snil (.tmp 3), some 4, none⟩])
  (.cond (.tmp 4) (.seq (.ops [⟨.mov (.const (.slice none 0 0)), some 2, none⟩])
  (.ret)) (.skip)))
  (.seq (.ops [⟨.bslice 45 3 0 (#[.int .i8 0, .int .i8 0, .float .f32 0]) [], some 5, none⟩,
    ⟨.mov (.tmp 0), some 6, none⟩,
    ⟨.app 45 3 (.tmp 5) (.tmp 6), some 7, none⟩,
    ⟨.mov (.tmp 7), some 2, none⟩])
  (.ret)))⟩
theorem ok_slices_Clone___impl_Well_impl_Well : cmpF Try.prog Try.f23 = some c_slices_Clone___impl_Well_impl_Well := by kernel_rfl

/- impl.ImageOf -/
def c_impl_ImageOf : FV := ⟨36, [.cell 6 (some 3), .tmp 7],
  .seq (.ops [⟨.box 45 (.tmp 0), some 3, none⟩,
    ⟨.alloc 45 (.agg (#[.int .i8 0, .int .i8 0, .float .f32 0])), some 6, none⟩,
    ⟨.mov (.const (.int .i64 0)), some 7, none⟩])
  (.seq (.seq (.ops [⟨.load (some 3) (.tmp 3), some 9, none⟩,
    ⟨.call 42 [.tmp 9], some 10, none⟩,
    ⟨.un .not (.tmp 10), some 11, none⟩])
  (.cond (.tmp 11) (.seq (.ops [⟨.build [(0, 1), (1, 1), (2, 1)] (#[.int .i8 0, .int .i8 0, .float .f32 0]) [], some 12, none⟩,
    ⟨.store 3 (.tmp 6) (.tmp 12), none, none⟩,
    ⟨.mov (.const (.int .i64 1)), some 7, none⟩])
  (.ret)) (.skip)))
  (.seq (.ops [⟨.mov (.tmp 1), some 13, none⟩,
    ⟨.addr (.tmp 3) 0, some 14, none⟩,
    ⟨.load none (.tmp 14), some 15, none⟩,
    ⟨.convI .i64 (.tmp 15), some 16, none⟩,
    ⟨.bin .sub (.tmp 13) (.tmp 16), some 17, none⟩,
    ⟨.mov (.tmp 17), some 8, none⟩])
  (.seq (.seq (.ops [⟨.mov (.tmp 1), some 18, none⟩,
    ⟨.call 43 [.tmp 18, .const (.int .i64 (-400)), .const (.int .i64 400)], some 19, none⟩,
    ⟨.un .not (.tmp 19), some 20, none⟩,
    ⟨.mov (.tmp 20), some 21, none⟩,
    ⟨.mov (.tmp 8), some 22, some (21, false)⟩,
    ⟨.call 44 [.tmp 22], some 23, some (21, false)⟩,
    ⟨.un .not (.tmp 23), some 24, some (21, false)⟩,
    ⟨.pick (.tmp 21) (.const (.bool true)) (.tmp 24), some 25, none⟩])
  (.cond (.tmp 25) (.seq (.ops [⟨.build [(0, 1), (1, 1), (2, 1)] (#[.int .i8 0, .int .i8 0, .float .f32 0]) [], some 26, none⟩,
    ⟨.store 3 (.tmp 6) (.tmp 26), none, none⟩,
    ⟨.mov (.const (.int .i64 2)), some 7, none⟩])
  (.ret)) (.skip)))
  (.seq (.seq (.ops [⟨.mov (.tmp 8), some 27, none⟩,
    ⟨.convI .i8 (.tmp 27), some 28, none⟩,
    ⟨.addr (.tmp 3) 0, some 29, none⟩,
    ⟨.store 1 (.tmp 29) (.tmp 28), none, none⟩])
  (.seq (.ops [⟨.mov (.tmp 2), some 30, none⟩])
  (.cond (.tmp 30) (.ops [⟨.addr (.tmp 3) 2, some 31, none⟩,
    ⟨.load none (.tmp 31), some 32, none⟩,
    ⟨.un .neg (.tmp 32), some 33, none⟩,
    ⟨.addr (.tmp 3) 2, some 34, none⟩,
    ⟨.store 1 (.tmp 34) (.tmp 33), none, none⟩]) (.skip))))
  (.seq (.ops [⟨.load (some 3) (.tmp 3), some 35, none⟩,
    ⟨.store 3 (.tmp 6) (.tmp 35), none, none⟩,
    ⟨.mov (.const (.int .i64 0)), some 7, none⟩])
  (.ret))))))⟩
theorem ok_impl_ImageOf : cmpF Try.prog Try.f24 = some c_impl_ImageOf := by kernel_rfl

/- laws.eqWell -/
def c_laws_eqWell : FV := ⟨23, [.tmp 4],
  .seq (.ops [⟨.box 45 (.tmp 0), some 2, none⟩,
    ⟨.box 45 (.tmp 1), some 3, none⟩,
    ⟨.mov (.const (.bool false)), some 4, none⟩])
  (.seq (.seq (.ops [⟨.addr (.tmp 2) 0, some 5, none⟩,
    ⟨.load none (.tmp 5), some 6, none⟩,
    ⟨.addr (.tmp 3) 0, some 7, none⟩,
    ⟨.load none (.tmp 7), some 8, none⟩,
    ⟨.bin .neq (.tmp 6) (.tmp 8), some 9, none⟩])
  (.cond (.tmp 9) (.seq (.ops [⟨.mov (.const (.bool false)), some 4, none⟩])
  (.ret)) (.skip)))
  (.seq (.seq (.ops [⟨.addr (.tmp 2) 1, some 10, none⟩,
    ⟨.load none (.tmp 10), some 11, none⟩,
    ⟨.addr (.tmp 3) 1, some 12, none⟩,
    ⟨.load none (.tmp 12), some 13, none⟩,
    ⟨.bin .neq (.tmp 11) (.tmp 13), some 14, none⟩])
  (.cond (.tmp 14) (.seq (.ops [⟨.mov (.const (.bool false)), some 4, none⟩])
  (.ret)) (.skip)))
  (.seq (.seq (.ops [⟨.addr (.tmp 2) 2, some 15, none⟩,
    ⟨.load none (.tmp 15), some 16, none⟩,
    ⟨.convF .f64 (.tmp 16), some 17, none⟩,
    ⟨.addr (.tmp 3) 2, some 18, none⟩,
    ⟨.load none (.tmp 18), some 19, none⟩,
    ⟨.convF .f64 (.tmp 19), some 20, none⟩,
    ⟨.call 16 [.tmp 17, .tmp 20], some 21, none⟩,
    ⟨.un .not (.tmp 21), some 22, none⟩])
  (.cond (.tmp 22) (.seq (.ops [⟨.mov (.const (.bool false)), some 4, none⟩])
  (.ret)) (.skip)))
  (.seq (.ops [⟨.mov (.const (.bool true)), some 4, none⟩])
  (.ret)))))⟩
theorem ok_laws_eqWell : cmpF Try.prog Try.f25 = some c_laws_eqWell := by kernel_rfl

/- spec.l04Ok -/
def c_spec_l04Ok : FV := ⟨28, [.tmp 2],
  .seq (.ops [⟨.mov (.const (.bool false)), some 2, none⟩])
  (.seq (.seq (.ops [⟨.mov (.tmp 0), some 5, none⟩,
    ⟨.lenL (.tmp 5), some 6, none⟩,
    ⟨.bin .gtr (.tmp 6) (.const (.int .i64 40)), some 7, none⟩])
  (.cond (.tmp 7) (.seq (.ops [⟨.mov (.const (.bool false)), some 2, none⟩])
  (.ret)) (.skip)))
  (.seq (.ops [⟨.mov (.const (.int .i64 0)), some 3, none⟩])
  (.seq (.seq (.ops [⟨.mov (.const (.int .i64 0)), some 4, none⟩])
  (.block 0 (.loop (.seq (.seq (.ops [⟨.mov (.tmp 4), some 8, none⟩,
    ⟨.mov (.tmp 0), some 9, none⟩,
    ⟨.lenL (.tmp 9), some 10, none⟩,
    ⟨.bin .lss (.tmp 8) (.tmp 10), some 11, none⟩])
  (.cond (.tmp 11) (.skip) (.exit 0)))
  (.seq (.block 1 (.seq (.seq (.ops [⟨.mov (.tmp 0), some 14, none⟩,
    ⟨.mov (.tmp 4), some 15, none⟩,
    ⟨.idxS 2 (.tmp 14) (.tmp 15), some 16, none⟩,
    ⟨.addr (.tmp 16) 0, some 17, none⟩,
    ⟨.load none (.tmp 17), some 18, none⟩,
    ⟨.mov (.tmp 3), some 19, none⟩,
    ⟨.bin .add (.tmp 19) (.const (.int .i64 1)), some 20, none⟩,
    ⟨.call 39 [.tmp 18, .tmp 20, .const (.int .i64 100000)], some 21, none⟩,
    ⟨.un .not (.tmp 21), some 22, none⟩])
  (.cond (.tmp 22) (.seq (.ops [⟨.mov (.const (.bool false)), some 2, none⟩])
  (.ret)) (.skip)))
  (.ops [⟨.mov (.tmp 0), some 23, none⟩,
    ⟨.mov (.tmp 4), some 24, none⟩,
    ⟨.idxS 2 (.tmp 23) (.tmp 24), some 25, none⟩,
    ⟨.addr (.tmp 25) 0, some 26, none⟩,
    ⟨.load none (.tmp 26), some 27, none⟩,
    ⟨.mov (.tmp 27), some 3, none⟩])))
  (.ops [⟨.mov (.tmp 4), some 12, none⟩,
    ⟨.bin .add (.tmp 12) (.const (.int .i64 1)), some 13, none⟩,
    ⟨.mov (.tmp 13), some 4, none⟩]))))))
  (.seq (.ops [⟨.mov (.const (.bool true)), some 2, none⟩])
  (.ret)))))⟩
theorem ok_spec_l04Ok : cmpF Try.prog Try.f26 = some c_spec_l04Ok := by kernel_rfl

/- spec.l03Ln -/
def c_spec_l03Ln : FV := ⟨54, [.tmp 2],
  .seq (.ops [⟨.mov (.const (.float .f32 0)), some 2, none⟩])
  (.seq (.ops [⟨.mov (.tmp 0), some 9, none⟩,
    ⟨.mov (.tmp 9), some 3, none⟩])
  (.seq (.ops [⟨.mov (.const (.int .i64 0)), some 4, none⟩])
  (.seq (.block 0 (.loop (.seq (.seq (.ops [⟨.mov (.tmp 3), some 10, none⟩,
    ⟨.fbin .geq (.tmp 10) (.const (.float .f32 1069547520)), some 11, none⟩])
  (.cond (.tmp 11) (.skip) (.exit 0)))
  (.block 1 (.seq (.ops [⟨.mov (.tmp 3), some 12, none⟩,
    ⟨.fbin .quo (.tmp 12) (.const (.float .f32 1073741824)), some 13, none⟩,
    ⟨.mov (.tmp 13), some 3, none⟩])
  (.ops [⟨.mov (.tmp 4), some 14, none⟩,
    ⟨.bin .add (.tmp 14) (.const (.int .i64 1)), some 15, none⟩,
    ⟨.mov (.tmp 15), some 4, none⟩]))))))
  (.seq (.block 2 (.loop (.seq (.seq (.ops [⟨.mov (.tmp 3), some 16, none⟩,
    ⟨.fbin .lss (.tmp 16) (.const (.float .f32 1061158912)), some 17, none⟩])
  (.cond (.tmp 17) (.skip) (.exit 2)))
  (.block 3 (.seq (.ops [⟨.mov (.tmp 3), some 18, none⟩,
    ⟨.fbin .mul (.tmp 18) (.const (.float .f32 1073741824)), some 19, none⟩,
    ⟨.mov (.tmp 19), some 3, none⟩])
  (.ops [⟨.mov (.tmp 4), some 20, none⟩,
    ⟨.bin .sub (.tmp 20) (.const (.int .i64 1)), some 21, none⟩,
    ⟨.mov (.tmp 21), some 4, none⟩]))))))
  (.seq (.ops [⟨.mov (.tmp 3), some 22, none⟩,
    ⟨.fbin .sub (.tmp 22) (.const (.float .f32 1065353216)), some 23, none⟩,
    ⟨.mov (.tmp 3), some 24, none⟩,
    ⟨.fbin .add (.tmp 24) (.const (.float .f32 1065353216)), some 25, none⟩,
    ⟨.fbin .quo (.tmp 23) (.tmp 25), some 26, none⟩,
    ⟨.mov (.tmp 26), some 5, none⟩])
  (.seq (.ops [⟨.mov (.tmp 5), some 27, none⟩,
    ⟨.mov (.tmp 5), some 28, none⟩,
    ⟨.fbin .mul (.tmp 27) (.tmp 28), some 29, none⟩,
    ⟨.mov (.tmp 29), some 6, none⟩])
  (.seq (.ops [⟨.mov (.tmp 6), some 30, none⟩,
    ⟨.call 45 [.const (.int .i64 1), .const (.int .i64 7)], some 31, none⟩,
    ⟨.fbin .mul (.tmp 30) (.tmp 31), some 32, none⟩,
    ⟨.call 45 [.const (.int .i64 1), .const (.int .i64 5)], some 33, none⟩,
    ⟨.fbin .add (.tmp 32) (.tmp 33), some 34, none⟩,
    ⟨.mov (.tmp 34), some 7, none⟩])
  (.seq (.ops [⟨.mov (.tmp 7), some 35, none⟩,
    ⟨.mov (.tmp 6), some 36, none⟩,
    ⟨.fbin .mul (.tmp 35) (.tmp 36), some 37, none⟩,
    ⟨.call 45 [.const (.int .i64 1), .const (.int .i64 3)], some 38, none⟩,
    ⟨.fbin .add (.tmp 37) (.tmp 38), some 39, none⟩,
    ⟨.mov (.tmp 39), some 7, none⟩])
  (.seq (.ops [⟨.mov (.tmp 7), some 40, none⟩,
    ⟨.mov (.tmp 6), some 41, none⟩,
    ⟨.fbin .mul (.tmp 40) (.tmp 41), some 42, none⟩,
    ⟨.fbin .add (.tmp 42) (.const (.float .f32 1065353216)), some 43, none⟩,
    ⟨.mov (.tmp 43), some 7, none⟩])
  (.seq (.ops [⟨.mov (.tmp 5), some 44, none⟩,
    ⟨.mov (.tmp 7), some 45, none⟩,
    ⟨.fbin .mul (.tmp 44) (.tmp 45), some 46, none⟩,
    ⟨.mov (.tmp 46), some 8, none⟩])
  (.seq (.ops [⟨.mov (.tmp 8), some 47, none⟩,
    ⟨.fbin .mul (.const (.float .f32 1073741824)) (.tmp 47), some 48, none⟩,
    ⟨.mov (.tmp 48), some 8, none⟩])
  (.seq (.ops [⟨.mov (.tmp 4), some 49, none⟩,
    ⟨.convF .f32 (.tmp 49), some 50, none⟩,
    ⟨.fbin .mul (.tmp 50) (.const (.float .f32 1060205080)), some 51, none⟩,
    ⟨.mov (.tmp 8), some 52, none⟩,
    ⟨.fbin .add (.tmp 51) (.tmp 52), some 53, none⟩,
    ⟨.mov (.tmp 53), some 2, none⟩])
  (.ret)))))))))))))⟩
theorem ok_spec_l03Ln : cmpF Try.prog Try.f27 = some c_spec_l03Ln := by kernel_rfl

/- spec.l04Level -/
def c_spec_l04Level : FV := ⟨7, [.tmp 2],
  .seq (.ops [⟨.box 58 (.tmp 0), some 1, none⟩,
    ⟨.mov (.const (.float .f32 0)), some 2, none⟩])
  (.seq (.ops [⟨.addr (.tmp 1) 1, some 3, none⟩,
    ⟨.load none (.tmp 3), some 4, none⟩,
    ⟨.convF .f32 (.tmp 4), some 5, none⟩,
    ⟨.fbin .quo (.tmp 5) (.const (.float .f32 1098907648)), some 6, none⟩,
    ⟨.mov (.tmp 6), some 2, none⟩])
  (.ret))⟩
theorem ok_spec_l04Level : cmpF Try.prog Try.f28 = some c_spec_l04Level := by kernel_rfl

/- spec.l01Finite -/
def c_spec_l01Finite : FV := ⟨7, [.tmp 2],
  .seq (.ops [⟨.mov (.const (.bool false)), some 2, none⟩])
  (.seq (.ops [⟨.mov (.tmp 0), some 3, none⟩,
    ⟨.mov (.tmp 0), some 4, none⟩,
    ⟨.fbin .sub (.tmp 3) (.tmp 4), some 5, none⟩,
    ⟨.fbin .eql (.tmp 5) (.const (.float .f32 0)), some 6, none⟩,
    ⟨.mov (.tmp 6), some 2, none⟩])
  (.ret))⟩
theorem ok_spec_l01Finite : cmpF Try.prog Try.f29 = some c_spec_l01Finite := by kernel_rfl

/- laws.toReading -/
def c_laws_toReading : FV := ⟨11, [.cell 2 (some 2)],
  .seq (.ops [⟨.box 62 (.tmp 0), some 1, none⟩,
    ⟨.alloc 58 (.agg (#[.int .i64 0, .int .i16 0])), some 2, none⟩])
  (.seq (.ops [⟨.alloc 58 (.agg (#[.int .i64 0, .int .i16 0])), some 3, none⟩])
  (.seq (.ops [⟨.addr (.tmp 1) 0, some 4, none⟩,
    ⟨.load none (.tmp 4), some 5, none⟩,
    ⟨.addr (.tmp 3) 0, some 6, none⟩,
    ⟨.store 1 (.tmp 6) (.tmp 5), none, none⟩])
  (.seq (.ops [⟨.addr (.tmp 1) 1, some 7, none⟩,
    ⟨.load none (.tmp 7), some 8, none⟩,
    ⟨.addr (.tmp 3) 1, some 9, none⟩,
    ⟨.store 1 (.tmp 9) (.tmp 8), none, none⟩])
  (.seq (.ops [⟨.load (some 2) (.tmp 3), some 10, none⟩,
    ⟨.store 2 (.tmp 2) (.tmp 10), none, none⟩])
  (.ret)))))⟩
theorem ok_laws_toReading : cmpF Try.prog Try.f30 = some c_laws_toReading := by kernel_rfl

/- impl.ValidReadings -/
def c_impl_ValidReadings : FV := ⟨21, [.tmp 2],
  .seq (.ops [⟨.mov (.const (.bool false)), some 2, none⟩])
  (.seq (.ops [⟨.bslice 2 1 0 (#[.int .i64 0]) [], some 6, none⟩,
    ⟨.mov (.tmp 6), some 3, none⟩])
  (.seq (.seq (.ops [⟨.mov (.tmp 0), some 7, none⟩,
    ⟨.lenL (.tmp 7), some 8, none⟩,
    ⟨.mov (.const (.int .i64 0)), some 9, none⟩])
  (.block 0 (.loop (.seq (.ops [⟨.bin .lss (.tmp 9) (.tmp 8), some 10, none⟩])
  (.seq (.cond (.tmp 10) (.skip) (.exit 0))
  (.seq (.block 1 (.seq (.ops [⟨.idxS 2 (.tmp 7) (.tmp 9), some 11, none⟩,
    ⟨.load (some 2) (.tmp 11), some 12, none⟩,
    ⟨.alloc 58 (.agg (#[.int .i64 0, .int .i16 0])), some 5, none⟩,
    ⟨.store 2 (.tmp 5) (.tmp 12), none, none⟩])
  (.ops [⟨.mov (.tmp 3), some 13, none⟩,
    ⟨.addr (.tmp 5) 0, some 14, none⟩,
    ⟨.load none (.tmp 14), some 15, none⟩,
    ⟨.bslice 2 1 1 (#[.int .i64 0]) [(0, .tmp 15)], some 16, none⟩,
    ⟨.app 2 1 (.tmp 13) (.tmp 16), some 17, none⟩,
    ⟨.mov (.tmp 17), some 3, none⟩])))
  (.ops [⟨.bin .add (.tmp 9) (.const (.int .i64 1)), some 18, none⟩,
    ⟨.mov (.tmp 18), some 9, none⟩])))))))
  (.seq (.ops [⟨.mov (.tmp 3), some 19, none⟩,
    ⟨.call 46 [.tmp 19], some 20, none⟩,
    ⟨.mov (.tmp 20), some 2, none⟩])
  (.ret))))⟩
theorem ok_impl_ValidReadings : cmpF Try.prog Try.f31 = some c_impl_ValidReadings := by kernel_rfl

/- impl.lnTime -/
def c_impl_lnTime : FV := ⟨13, [.tmp 2],
  .seq (.ops [⟨.box 58 (.tmp 0), some 1, none⟩,
    ⟨.mov (.const (.float .f32 0)), some 2, none⟩])
  (.seq (.ops [⟨.addr (.tmp 1) 0, some 6, none⟩,
    ⟨.load none (.tmp 6), some 7, none⟩,
    ⟨.convF .f32 (.tmp 7), some 8, none⟩,
    ⟨.call 47 [.tmp 8], some 9, none⟩,
    ⟨.mov (.tmp 9), some 5, none⟩,
    ⟨.ext (.tmp 5) 0, some 10, none⟩,
    ⟨.ext (.tmp 5) 1, some 11, none⟩,
    ⟨.mov (.tmp 10), some 3, none⟩,
    ⟨.mov (.tmp 11), some 4, none⟩])
  (.seq (.ops [⟨.mov (.tmp 3), some 12, none⟩,
    ⟨.mov (.tmp 12), some 2, none⟩])
  (.ret)))⟩
theorem ok_impl_lnTime : cmpF Try.prog Try.f32 = some c_impl_lnTime := by kernel_rfl

/- impl.LevelOf -/
def c_impl_LevelOf : FV := ⟨7, [.tmp 2],
  .seq (.ops [⟨.box 58 (.tmp 0), some 1, none⟩,
    ⟨.mov (.const (.float .f32 0)), some 2, none⟩])
  (.seq (.ops [⟨.addr (.tmp 1) 1, some 3, none⟩,
    ⟨.load none (.tmp 3), some 4, none⟩,
    ⟨.convF .f32 (.tmp 4), some 5, none⟩,
    ⟨.fbin .quo (.tmp 5) (.const (.float .f32 1098907648)), some 6, none⟩,
    ⟨.mov (.tmp 6), some 2, none⟩])
  (.ret))⟩
theorem ok_impl_LevelOf : cmpF Try.prog Try.f33 = some c_impl_LevelOf := by kernel_rfl

/- impl.sum -/
def c_impl_sum : FV := ⟨24, [.tmp 2],
  .seq (.ops [⟨.mov (.const (.float .f32 0)), some 2, none⟩])
  (.seq (.seq (.ops [⟨.mov (.tmp 0), some 6, none⟩,
    ⟨.lenL (.tmp 6), some 7, none⟩,
    ⟨.bin .eql (.tmp 7) (.const (.int .i64 0)), some 8, none⟩])
  (.cond (.tmp 8) (.seq (.ops [⟨.mov (.const (.float .f32 0)), some 2, none⟩])
  (.ret)) (.skip)))
  (.seq (.ops [⟨.mov (.tmp 0), some 9, none⟩,
    ⟨.idxS 1 (.tmp 9) (.const (.int .i64 0)), some 10, none⟩,
    ⟨.load none (.tmp 10), some 11, none⟩,
    ⟨.mov (.tmp 11), some 3, none⟩])
  (.seq (.seq (.ops [⟨.mov (.tmp 0), some 12, none⟩,
    ⟨.slcL 1 (.tmp 12) (some (.const (.int .i64 1))) none, some 13, none⟩,
    ⟨.lenL (.tmp 13), some 14, none⟩,
    ⟨.mov (.const (.int .i64 0)), some 15, none⟩])
  (.block 0 (.loop (.seq (.ops [⟨.bin .lss (.tmp 15) (.tmp 14), some 16, none⟩])
  (.seq (.cond (.tmp 16) (.skip) (.exit 0))
  (.seq (.block 1 (.seq (.ops [⟨.idxS 1 (.tmp 13) (.tmp 15), some 17, none⟩,
    ⟨.load none (.tmp 17), some 18, none⟩,
    ⟨.mov (.tmp 18), some 5, none⟩])
  (.ops [⟨.mov (.tmp 3), some 19, none⟩,
    ⟨.mov (.tmp 5), some 20, none⟩,
    ⟨.fbin .add (.tmp 19) (.tmp 20), some 21, none⟩,
    ⟨.mov (.tmp 21), some 3, none⟩])))
  (.ops [⟨.bin .add (.tmp 15) (.const (.int .i64 1)), some 22, none⟩,
    ⟨.mov (.tmp 22), some 15, none⟩])))))))
  (.seq (.ops [⟨.mov (.tmp 3), some 23, none⟩,
    ⟨.mov (.tmp 23), some 2, none⟩])
  (.ret)))))⟩
theorem ok_impl_sum : cmpF Try.prog Try.f34 = some c_impl_sum := by kernel_rfl

/- impl.finite -/
def c_impl_finite : FV := ⟨7, [.tmp 2],
  .seq (.ops [⟨.mov (.const (.bool false)), some 2, none⟩])
  (.seq (.ops [⟨.mov (.tmp 0), some 3, none⟩,
    ⟨.mov (.tmp 0), some 4, none⟩,
    ⟨.fbin .sub (.tmp 3) (.tmp 4), some 5, none⟩,
    ⟨.fbin .eql (.tmp 5) (.const (.float .f32 0)), some 6, none⟩,
    ⟨.mov (.tmp 6), some 2, none⟩])
  (.ret))⟩
theorem ok_impl_finite : cmpF Try.prog Try.f35 = some c_impl_finite := by kernel_rfl

/- laws.eqReading -/
def c_laws_eqReading : FV := ⟨15, [.tmp 4],
  .seq (.ops [⟨.box 58 (.tmp 0), some 2, none⟩,
    ⟨.box 58 (.tmp 1), some 3, none⟩,
    ⟨.mov (.const (.bool false)), some 4, none⟩])
  (.seq (.seq (.ops [⟨.addr (.tmp 2) 0, some 5, none⟩,
    ⟨.load none (.tmp 5), some 6, none⟩,
    ⟨.addr (.tmp 3) 0, some 7, none⟩,
    ⟨.load none (.tmp 7), some 8, none⟩,
    ⟨.bin .neq (.tmp 6) (.tmp 8), some 9, none⟩])
  (.cond (.tmp 9) (.seq (.ops [⟨.mov (.const (.bool false)), some 4, none⟩])
  (.ret)) (.skip)))
  (.seq (.seq (.ops [⟨.addr (.tmp 2) 1, some 10, none⟩,
    ⟨.load none (.tmp 10), some 11, none⟩,
    ⟨.addr (.tmp 3) 1, some 12, none⟩,
    ⟨.load none (.tmp 12), some 13, none⟩,
    ⟨.bin .neq (.tmp 11) (.tmp 13), some 14, none⟩])
  (.cond (.tmp 14) (.seq (.ops [⟨.mov (.const (.bool false)), some 4, none⟩])
  (.ret)) (.skip)))
  (.seq (.ops [⟨.mov (.const (.bool true)), some 4, none⟩])
  (.ret))))⟩
theorem ok_laws_eqReading : cmpF Try.prog Try.f36 = some c_laws_eqReading := by kernel_rfl

/- spec.l03Place -/
def c_spec_l03Place : FV := ⟨5, [.tmp 2],
  .seq (.ops [⟨.mov (.const (.bool false)), some 2, none⟩])
  (.seq (.ops [⟨.mov (.tmp 0), some 3, none⟩,
    ⟨.call 39 [.tmp 3, .const (.int .i64 (-100)), .const (.int .i64 100)], some 4, none⟩,
    ⟨.mov (.tmp 4), some 2, none⟩])
  (.ret))⟩
theorem ok_spec_l03Place : cmpF Try.prog Try.f37 = some c_spec_l03Place := by kernel_rfl

/- spec.l03Plain -/
def c_spec_l03Plain : FV := ⟨9, [.tmp 2],
  .seq (.ops [⟨.mov (.const (.bool false)), some 2, none⟩])
  (.seq (.ops [⟨.mov (.tmp 0), some 3, none⟩,
    ⟨.fbin .geq (.tmp 3) (.const (.float .f32 3380609024)), some 4, none⟩,
    ⟨.mov (.tmp 4), some 5, none⟩,
    ⟨.mov (.tmp 0), some 6, some (5, true)⟩,
    ⟨.fbin .leq (.tmp 6) (.const (.float .f32 1233125376)), some 7, some (5, true)⟩,
    ⟨.pick (.tmp 5) (.tmp 7) (.const (.bool false)), some 8, none⟩,
    ⟨.mov (.tmp 8), some 2, none⟩])
  (.ret))⟩
theorem ok_spec_l03Plain : cmpF Try.prog Try.f38 = some c_spec_l03Plain := by kernel_rfl

/- spec.l00In -/
def c_spec_l00In : FV := ⟨15, [.tmp 6],
  .seq (.ops [⟨.mov (.const (.bool false)), some 6, none⟩])
  (.seq (.ops [⟨.mov (.tmp 0), some 7, none⟩,
    ⟨.mov (.tmp 1), some 8, none⟩,
    ⟨.bin .geq (.tmp 7) (.tmp 8), some 9, none⟩,
    ⟨.mov (.tmp 9), some 10, none⟩,
    ⟨.mov (.tmp 0), some 11, some (10, true)⟩,
    ⟨.mov (.tmp 2), some 12, some (10, true)⟩,
    ⟨.bin .leq (.tmp 11) (.tmp 12), some 13, some (10, true)⟩,
    ⟨.pick (.tmp 10) (.tmp 13) (.const (.bool false)), some 14, none⟩,
    ⟨.mov (.tmp 14), some 6, none⟩])
  (.ret))⟩
theorem ok_spec_l00In : cmpF Try.prog Try.f39 = some c_spec_l00In := by kernel_rfl

/- spec.l03Image -/
def c_spec_l03Image : FV := ⟨37, [.cell 6 (some 3), .tmp 7],
  .seq (.ops [⟨.box 45 (.tmp 0), some 3, none⟩,
    ⟨.alloc 45 (.agg (#[.int .i8 0, .int .i8 0, .float .f32 0])), some 6, none⟩,
    ⟨.mov (.const (.int .i64 0)), some 7, none⟩])
  (.seq (.ops [⟨.mov (.tmp 1), some 10, none⟩,
    ⟨.addr (.tmp 3) 0, some 11, none⟩,
    ⟨.load none (.tmp 11), some 12, none⟩,
    ⟨.convI .i64 (.tmp 12), some 13, none⟩,
    ⟨.bin .sub (.tmp 10) (.tmp 13), some 14, none⟩,
    ⟨.mov (.tmp 14), some 8, none⟩])
  (.seq (.seq (.ops [⟨.mov (.tmp 1), some 15, none⟩,
    ⟨.call 39 [.tmp 15, .const (.int .i64 (-400)), .const (.int .i64 400)], some 16, none⟩,
    ⟨.un .not (.tmp 16), some 17, none⟩,
    ⟨.mov (.tmp 17), some 18, none⟩,
    ⟨.mov (.tmp 8), some 19, some (18, false)⟩,
    ⟨.call 37 [.tmp 19], some 20, some (18, false)⟩,
    ⟨.un .not (.tmp 20), some 21, some (18, false)⟩,
    ⟨.pick (.tmp 18) (.const (.bool true)) (.tmp 21), some 22, none⟩])
  (.cond (.tmp 22) (.seq (.ops [⟨.build [(0, 1), (1, 1), (2, 1)] (#[.int .i8 0, .int .i8 0, .float .f32 0]) [], some 23, none⟩,
    ⟨.store 3 (.tmp 6) (.tmp 23), none, none⟩,
    ⟨.mov (.const (.int .i64 2)), some 7, none⟩])
  (.ret)) (.skip)))
  (.seq (.ops [⟨.mov (.tmp 8), some 24, none⟩,
    ⟨.convI .i8 (.tmp 24), some 25, none⟩,
    ⟨.addr (.tmp 3) 1, some 26, none⟩,
    ⟨.load none (.tmp 26), some 27, none⟩,
    ⟨.addr (.tmp 3) 2, some 28, none⟩,
    ⟨.load none (.tmp 28), some 29, none⟩,
    ⟨.build [(0, 1), (1, 1), (2, 1)] (#[.int .i8 0, .int .i8 0, .float .f32 0]) [(0, .tmp 25), (1, .tmp 27), (2, .tmp 29)], some 30, none⟩,
    ⟨.alloc 45 (.agg (#[.int .i8 0, .int .i8 0, .float .f32 0])), some 9, none⟩,
    ⟨.store 3 (.tmp 9) (.tmp 30), none, none⟩])
  (.seq (.seq (.ops [⟨.mov (.tmp 2), some 31, none⟩])
  (.cond (.tmp 31) (.ops [⟨.addr (.tmp 3) 2, some 32, none⟩,
    ⟨.load none (.tmp 32), some 33, none⟩,
    ⟨.un .neg (.tmp 33), some 34, none⟩,
    ⟨.addr (.tmp 9) 2, some 35, none⟩,
    ⟨.store 1 (.tmp 35) (.tmp 34), none, none⟩]) (.skip)))
  (.seq (.ops [⟨.load (some 3) (.tmp 9), some 36, none⟩,
    ⟨.store 3 (.tmp 6) (.tmp 36), none, none⟩,
    ⟨.mov (.const (.int .i64 0)), some 7, none⟩])
  (.ret))))))⟩
theorem ok_spec_l03Image : cmpF Try.prog Try.f40 = some c_spec_l03Image := by kernel_rfl

/- slices.IndexFunc[[]impl.Well,impl.Well] -/
def c_slices_IndexFunc___impl_Well_impl_Well : FV := ⟨19, [.tmp 4],
  .seq (.ops [⟨.mov (.const (.int .i64 0)), some 4, none⟩])
  (.seq (.seq (.ops [⟨.mov (.tmp 0), some 6, none⟩,
    ⟨.lenL (.tmp 6), some 7, none⟩,
    ⟨.mov (.const (.int .i64 0)), some 8, none⟩])
  (.block 0 (.loop (.seq (.ops [⟨.bin .lss (.tmp 8) (.tmp 7), some 9, none⟩])
  (.seq (.cond (.tmp 9) (.skip) (.exit 0))
  (.seq (.block 1 (.seq (.ops [⟨.mov (.tmp 8), some 10, none⟩,
    ⟨.mov (.tmp 10), some 5, none⟩])
  (.seq (.ops [⟨.mov (.tmp 1), some 11, none⟩,
    ⟨.mov (.tmp 0), some 12, none⟩,
    ⟨.mov (.tmp 5), some 13, none⟩,
    ⟨.idxS 3 (.tmp 12) (.tmp 13), some 14, none⟩,
    ⟨.load (some 3) (.tmp 14), some 15, none⟩,
    ⟨.callv (.tmp 11) [.tmp 15], some 16, none⟩])
  (.cond (.tmp 16) (.seq (.ops [⟨.mov (.tmp 5), some 17, none⟩,
    ⟨.mov (.tmp 17), some 4, none⟩])
  (.ret)) (.skip)))))
  (.ops [⟨.bin .add (.tmp 8) (.const (.int .i64 1)), some 18, none⟩,
    ⟨.mov (.tmp 18), some 8, none⟩])))))))
  (.seq (.ops [⟨.mov (.const (.int .i64 (-1))), some 4, none⟩])
  (.ret)))⟩
theorem ok_slices_IndexFunc___impl_Well_impl_Well : cmpF Try.prog Try.f41 = some c_slices_IndexFunc___impl_Well_impl_Well := by kernel_rfl

end Go.Proofs.Ytkjlndflcfboeaa
