/- The code of the Go functions in the generator's own form, printed by a program of mine (gen.py) out of the loaded program; each with the check that it is so. -/
import Derived.Test.YtngfhggdombdgaaVcFn
import Derived.Test.YtngfhggdombdgaaGeo
import Derived.Test.YtngfhggdombdgaaRows
import Derived.KernelRfl
namespace Go.Proofs.Ytngfhggdombdgaa
open Go Go.Fl Go.Vc
set_option linter.all false
set_option maxRecDepth 100000

/- laws.FnSeries -/
def c_laws_FnSeries : FV := ⟨169, [.tmp 4],
  .seq (.ops [⟨.mov (.const (.bool false)), some 4, none⟩])
  (.seq (.seq (.ops [⟨.mov (.tmp 0), some 28, none⟩,
    ⟨.call 17 [.tmp 28], some 29, none⟩,
    ⟨.mov (.tmp 29), some 30, none⟩,
    ⟨.mov (.tmp 1), some 31, some (30, false)⟩,
    ⟨.call 17 [.tmp 31], some 32, some (30, false)⟩,
    ⟨.pick (.tmp 30) (.const (.bool true)) (.tmp 32), some 33, none⟩])
  (.cond (.tmp 33) (.seq (.ops [⟨.mov (.const (.bool true)), some 4, none⟩])
  (.ret)) (.skip)))
  (.seq (.ops [⟨.mov (.tmp 0), some 34, none⟩,
    ⟨.call 18 [.tmp 34, .const (.int .i64 121)], some 35, none⟩,
    ⟨.bin .sub (.tmp 35) (.const (.int .i64 60)), some 36, none⟩,
    ⟨.mov (.tmp 36), some 5, none⟩])
  (.seq (.ops [⟨.mov (.const (.float .f32 1065353216)), some 6, none⟩])
  (.seq (.seq (.ops [⟨.mov (.const (.int .i64 0)), some 7, none⟩])
  (.block 0 (.loop (.seq (.seq (.ops [⟨.mov (.tmp 7), some 37, none⟩,
    ⟨.mov (.tmp 5), some 38, none⟩,
    ⟨.bin .lss (.tmp 37) (.tmp 38), some 39, none⟩])
  (.cond (.tmp 39) (.skip) (.exit 0)))
  (.seq (.block 1 (.ops [⟨.mov (.tmp 6), some 42, none⟩,
    ⟨.fbin .mul (.const (.float .f32 1073741824)) (.tmp 42), some 43, none⟩,
    ⟨.mov (.tmp 43), some 6, none⟩]))
  (.ops [⟨.mov (.tmp 7), some 40, none⟩,
    ⟨.bin .add (.tmp 40) (.const (.int .i64 1)), some 41, none⟩,
    ⟨.mov (.tmp 41), some 7, none⟩]))))))
  (.seq (.seq (.ops [⟨.mov (.tmp 5), some 44, none⟩,
    ⟨.mov (.tmp 44), some 8, none⟩])
  (.block 2 (.loop (.seq (.seq (.ops [⟨.mov (.tmp 8), some 45, none⟩,
    ⟨.bin .lss (.tmp 45) (.const (.int .i64 0)), some 46, none⟩])
  (.cond (.tmp 46) (.skip) (.exit 2)))
  (.seq (.block 3 (.ops [⟨.mov (.tmp 6), some 49, none⟩,
    ⟨.fbin .quo (.tmp 49) (.const (.float .f32 1073741824)), some 50, none⟩,
    ⟨.mov (.tmp 50), some 6, none⟩]))
  (.ops [⟨.mov (.tmp 8), some 47, none⟩,
    ⟨.bin .add (.tmp 47) (.const (.int .i64 1)), some 48, none⟩,
    ⟨.mov (.tmp 48), some 8, none⟩]))))))
  (.seq (.ops [⟨.call 19 [.const (.float .f32 1073741824)], some 52, none⟩,
    ⟨.mov (.tmp 52), some 51, none⟩,
    ⟨.ext (.tmp 51) 0, some 53, none⟩,
    ⟨.ext (.tmp 51) 1, some 54, none⟩,
    ⟨.mov (.tmp 53), some 9, none⟩,
    ⟨.mov (.tmp 54), some 10, none⟩])
  (.seq (.ops [⟨.mov (.tmp 6), some 56, none⟩,
    ⟨.call 19 [.tmp 56], some 57, none⟩,
    ⟨.mov (.tmp 57), some 55, none⟩,
    ⟨.ext (.tmp 55) 0, some 58, none⟩,
    ⟨.ext (.tmp 55) 1, some 59, none⟩,
    ⟨.mov (.tmp 58), some 11, none⟩,
    ⟨.mov (.tmp 59), some 12, none⟩])
  (.seq (.ops [⟨.call 20 [.const (.float .f32 0)], some 61, none⟩,
    ⟨.mov (.tmp 61), some 60, none⟩,
    ⟨.ext (.tmp 60) 0, some 62, none⟩,
    ⟨.ext (.tmp 60) 1, some 63, none⟩,
    ⟨.mov (.tmp 62), some 13, none⟩,
    ⟨.mov (.tmp 63), some 14, none⟩])
  (.seq (.seq (.ops [⟨.mov (.tmp 10), some 64, none⟩,
    ⟨.bin .neq (.tmp 64) (.const (.int .i64 0)), some 65, none⟩,
    ⟨.mov (.tmp 65), some 66, none⟩,
    ⟨.mov (.tmp 12), some 67, some (66, false)⟩,
    ⟨.bin .neq (.tmp 67) (.const (.int .i64 0)), some 68, some (66, false)⟩,
    ⟨.pick (.tmp 66) (.const (.bool true)) (.tmp 68), some 69, none⟩,
    ⟨.mov (.tmp 69), some 70, none⟩,
    ⟨.mov (.tmp 14), some 71, some (70, false)⟩,
    ⟨.bin .neq (.tmp 71) (.const (.int .i64 0)), some 72, some (70, false)⟩,
    ⟨.pick (.tmp 70) (.const (.bool true)) (.tmp 72), some 73, none⟩,
    ⟨.mov (.tmp 73), some 74, none⟩,
    ⟨.mov (.tmp 13), some 75, some (74, false)⟩,
    ⟨.fbin .neq (.tmp 75) (.const (.float .f32 1065353216)), some 76, some (74, false)⟩,
    ⟨.pick (.tmp 74) (.const (.bool true)) (.tmp 76), some 77, none⟩,
    ⟨.mov (.tmp 77), some 78, none⟩,
    ⟨.mov (.tmp 11), some 79, some (78, false)⟩,
    ⟨.mov (.tmp 5), some 80, some (78, false)⟩,
    ⟨.convF .f32 (.tmp 80), some 81, some (78, false)⟩,
    ⟨.mov (.tmp 9), some 82, some (78, false)⟩,
    ⟨.fbin .mul (.tmp 81) (.tmp 82), some 83, some (78, false)⟩,
    ⟨.fbin .neq (.tmp 79) (.tmp 83), some 84, some (78, false)⟩,
    ⟨.pick (.tmp 78) (.const (.bool true)) (.tmp 84), some 85, none⟩])
  (.cond (.tmp 85) (.seq (.ops [⟨.mov (.const (.bool false)), some 4, none⟩])
  (.ret)) (.skip)))
  (.seq (.ops [⟨.mov (.tmp 1), some 86, none⟩,
    ⟨.call 18 [.tmp 86, .const (.int .i64 5000)], some 87, none⟩,
    ⟨.bin .add (.const (.int .i64 1)) (.tmp 87), some 88, none⟩,
    ⟨.convF .f32 (.tmp 88), some 89, none⟩,
    ⟨.fbin .quo (.tmp 89) (.const (.float .f32 1124073472)), some 90, none⟩,
    ⟨.mov (.tmp 90), some 15, none⟩])
  (.seq (.ops [⟨.mov (.tmp 15), some 92, none⟩,
    ⟨.call 19 [.tmp 92], some 93, none⟩,
    ⟨.mov (.tmp 93), some 91, none⟩,
    ⟨.ext (.tmp 91) 0, some 94, none⟩,
    ⟨.ext (.tmp 91) 1, some 95, none⟩,
    ⟨.mov (.tmp 94), some 16, none⟩,
    ⟨.mov (.tmp 95), some 17, none⟩])
  (.seq (.ops [⟨.mov (.tmp 15), some 97, none⟩,
    ⟨.call 21 [.tmp 97], some 98, none⟩,
    ⟨.mov (.tmp 98), some 96, none⟩,
    ⟨.ext (.tmp 96) 0, some 99, none⟩,
    ⟨.ext (.tmp 96) 1, some 100, none⟩,
    ⟨.mov (.tmp 99), some 18, none⟩,
    ⟨.mov (.tmp 100), some 19, none⟩])
  (.seq (.ops [⟨.mov (.tmp 15), some 102, none⟩,
    ⟨.call 20 [.tmp 102], some 103, none⟩,
    ⟨.mov (.tmp 103), some 101, none⟩,
    ⟨.ext (.tmp 101) 0, some 104, none⟩,
    ⟨.ext (.tmp 101) 1, some 105, none⟩,
    ⟨.mov (.tmp 104), some 20, none⟩,
    ⟨.mov (.tmp 105), some 21, none⟩])
  (.seq (.ops [⟨.mov (.tmp 15), some 107, none⟩,
    ⟨.call 22 [.tmp 107], some 108, none⟩,
    ⟨.mov (.tmp 108), some 106, none⟩,
    ⟨.ext (.tmp 106) 0, some 109, none⟩,
    ⟨.ext (.tmp 106) 1, some 110, none⟩,
    ⟨.mov (.tmp 109), some 22, none⟩,
    ⟨.mov (.tmp 110), some 23, none⟩])
  (.seq (.ops [⟨.mov (.tmp 15), some 112, none⟩,
    ⟨.call 23 [.tmp 112], some 113, none⟩,
    ⟨.mov (.tmp 113), some 111, none⟩,
    ⟨.ext (.tmp 111) 0, some 114, none⟩,
    ⟨.ext (.tmp 111) 1, some 115, none⟩,
    ⟨.mov (.tmp 114), some 24, none⟩,
    ⟨.mov (.tmp 115), some 25, none⟩])
  (.seq (.ops [⟨.mov (.tmp 15), some 117, none⟩,
    ⟨.call 24 [.tmp 117], some 118, none⟩,
    ⟨.mov (.tmp 118), some 116, none⟩,
    ⟨.ext (.tmp 116) 0, some 119, none⟩,
    ⟨.ext (.tmp 116) 1, some 120, none⟩,
    ⟨.mov (.tmp 119), some 26, none⟩,
    ⟨.mov (.tmp 120), some 27, none⟩])
  (.seq (.ops [⟨.mov (.tmp 17), some 121, none⟩,
    ⟨.mov (.tmp 19), some 122, none⟩,
    ⟨.bin .eql (.tmp 121) (.tmp 122), some 123, none⟩,
    ⟨.mov (.tmp 123), some 124, none⟩,
    ⟨.mov (.tmp 16), some 125, some (124, true)⟩,
    ⟨.mov (.tmp 18), some 126, some (124, true)⟩,
    ⟨.call 25 [.tmp 125, .tmp 126], some 127, some (124, true)⟩,
    ⟨.pick (.tmp 124) (.tmp 127) (.const (.bool false)), some 128, none⟩,
    ⟨.mov (.tmp 128), some 129, none⟩,
    ⟨.mov (.tmp 21), some 130, some (129, true)⟩,
    ⟨.mov (.tmp 23), some 131, some (129, true)⟩,
    ⟨.bin .eql (.tmp 130) (.tmp 131), some 132, some (129, true)⟩,
    ⟨.pick (.tmp 129) (.tmp 132) (.const (.bool false)), some 133, none⟩,
    ⟨.mov (.tmp 133), some 134, none⟩,
    ⟨.mov (.tmp 20), some 135, some (134, true)⟩,
    ⟨.mov (.tmp 22), some 136, some (134, true)⟩,
    ⟨.call 25 [.tmp 135, .tmp 136], some 137, some (134, true)⟩,
    ⟨.pick (.tmp 134) (.tmp 137) (.const (.bool false)), some 138, none⟩,
    ⟨.mov (.tmp 138), some 139, none⟩,
    ⟨.mov (.tmp 25), some 140, some (139, true)⟩,
    ⟨.mov (.tmp 27), some 141, some (139, true)⟩,
    ⟨.bin .eql (.tmp 140) (.tmp 141), some 142, some (139, true)⟩,
    ⟨.pick (.tmp 139) (.tmp 142) (.const (.bool false)), some 143, none⟩,
    ⟨.mov (.tmp 143), some 144, none⟩,
    ⟨.mov (.tmp 24), some 145, some (144, true)⟩,
    ⟨.mov (.tmp 26), some 146, some (144, true)⟩,
    ⟨.call 25 [.tmp 145, .tmp 146], some 147, some (144, true)⟩,
    ⟨.pick (.tmp 144) (.tmp 147) (.const (.bool false)), some 148, none⟩,
    ⟨.mov (.tmp 148), some 149, none⟩,
    ⟨.mov (.tmp 17), some 150, some (149, true)⟩,
    ⟨.bin .eql (.tmp 150) (.const (.int .i64 0)), some 151, some (149, true)⟩,
    ⟨.pick (.tmp 149) (.tmp 151) (.const (.bool false)), some 152, none⟩,
    ⟨.mov (.tmp 152), some 153, none⟩,
    ⟨.mov (.tmp 21), some 154, some (153, true)⟩,
    ⟨.bin .eql (.tmp 154) (.const (.int .i64 0)), some 155, some (153, true)⟩,
    ⟨.pick (.tmp 153) (.tmp 155) (.const (.bool false)), some 156, none⟩,
    ⟨.mov (.tmp 156), some 157, none⟩,
    ⟨.mov (.tmp 25), some 158, some (157, true)⟩,
    ⟨.bin .eql (.tmp 158) (.const (.int .i64 0)), some 159, some (157, true)⟩,
    ⟨.pick (.tmp 157) (.tmp 159) (.const (.bool false)), some 160, none⟩,
    ⟨.mov (.tmp 160), some 161, none⟩,
    ⟨.mov (.tmp 22), some 162, some (161, true)⟩,
    ⟨.fbin .gtr (.tmp 162) (.const (.float .f32 0)), some 163, some (161, true)⟩,
    ⟨.pick (.tmp 161) (.tmp 163) (.const (.bool false)), some 164, none⟩,
    ⟨.mov (.tmp 164), some 165, none⟩,
    ⟨.mov (.tmp 22), some 166, some (165, true)⟩,
    ⟨.fbin .leq (.tmp 166) (.const (.float .f32 1065353216)), some 167, some (165, true)⟩,
    ⟨.pick (.tmp 165) (.tmp 167) (.const (.bool false)), some 168, none⟩,
    ⟨.mov (.tmp 168), some 4, none⟩])
  (.ret))))))))))))))))))⟩
theorem ok_laws_FnSeries : cmpF Try.prog Try.f3 = some c_laws_FnSeries := by kernel_rfl

/- laws.FnExactLnOf -/
def c_laws_FnExactLnOf : FV := ⟨28, [.tmp 2],
  .seq (.ops [⟨.mov (.const (.bool false)), some 2, none⟩])
  (.seq (.ops [⟨.mov (.tmp 0), some 8, none⟩,
    ⟨.call 21 [.tmp 8], some 9, none⟩,
    ⟨.mov (.tmp 9), some 7, none⟩,
    ⟨.ext (.tmp 7) 0, some 10, none⟩,
    ⟨.ext (.tmp 7) 1, some 11, none⟩,
    ⟨.mov (.tmp 10), some 3, none⟩,
    ⟨.mov (.tmp 11), some 4, none⟩])
  (.seq (.ops [⟨.mov (.tmp 0), some 13, none⟩,
    ⟨.call 19 [.tmp 13], some 14, none⟩,
    ⟨.mov (.tmp 14), some 12, none⟩,
    ⟨.ext (.tmp 12) 0, some 15, none⟩,
    ⟨.ext (.tmp 12) 1, some 16, none⟩,
    ⟨.mov (.tmp 15), some 5, none⟩,
    ⟨.mov (.tmp 16), some 6, none⟩])
  (.seq (.seq (.ops [⟨.mov (.tmp 5), some 17, none⟩,
    ⟨.convF .f64 (.tmp 17), some 18, none⟩,
    ⟨.mov (.tmp 3), some 19, none⟩,
    ⟨.convF .f64 (.tmp 19), some 20, none⟩,
    ⟨.call 26 [.tmp 18, .tmp 20], some 21, none⟩,
    ⟨.un .not (.tmp 21), some 22, none⟩,
    ⟨.mov (.tmp 22), some 23, none⟩,
    ⟨.mov (.tmp 6), some 24, some (23, false)⟩,
    ⟨.mov (.tmp 4), some 25, some (23, false)⟩,
    ⟨.bin .neq (.tmp 24) (.tmp 25), some 26, some (23, false)⟩,
    ⟨.pick (.tmp 23) (.const (.bool true)) (.tmp 26), some 27, none⟩])
  (.cond (.tmp 27) (.seq (.ops [⟨.mov (.const (.bool false)), some 2, none⟩])
  (.ret)) (.skip)))
  (.seq (.ops [⟨.mov (.const (.bool true)), some 2, none⟩])
  (.ret)))))⟩
theorem ok_laws_FnExactLnOf : cmpF Try.prog Try.f4 = some c_laws_FnExactLnOf := by kernel_rfl

/- laws.FnExactTransmitOf -/
def c_laws_FnExactTransmitOf : FV := ⟨34, [.tmp 4],
  .seq (.ops [⟨.box 37 (.tmp 0), some 2, none⟩,
    ⟨.mov (.const (.bool false)), some 4, none⟩])
  (.seq (.ops [⟨.load (some 5) (.tmp 2), some 10, none⟩,
    ⟨.call 28 [.tmp 10], some 11, none⟩,
    ⟨.mov (.tmp 1), some 12, none⟩,
    ⟨.call 27 [.tmp 11, .tmp 12], some 13, none⟩,
    ⟨.mov (.tmp 13), some 9, none⟩,
    ⟨.ext (.tmp 9) 0, some 14, none⟩,
    ⟨.ext (.tmp 9) 1, some 15, none⟩,
    ⟨.mov (.tmp 14), some 5, none⟩,
    ⟨.mov (.tmp 15), some 6, none⟩])
  (.seq (.ops [⟨.load (some 5) (.tmp 2), some 17, none⟩,
    ⟨.call 28 [.tmp 17], some 18, none⟩,
    ⟨.mov (.tmp 1), some 19, none⟩,
    ⟨.call 29 [.tmp 18, .tmp 19], some 20, none⟩,
    ⟨.mov (.tmp 20), some 16, none⟩,
    ⟨.ext (.tmp 16) 0, some 21, none⟩,
    ⟨.ext (.tmp 16) 1, some 22, none⟩,
    ⟨.mov (.tmp 21), some 7, none⟩,
    ⟨.mov (.tmp 22), some 8, none⟩])
  (.seq (.seq (.ops [⟨.mov (.tmp 7), some 23, none⟩,
    ⟨.convF .f64 (.tmp 23), some 24, none⟩,
    ⟨.mov (.tmp 5), some 25, none⟩,
    ⟨.convF .f64 (.tmp 25), some 26, none⟩,
    ⟨.call 26 [.tmp 24, .tmp 26], some 27, none⟩,
    ⟨.un .not (.tmp 27), some 28, none⟩,
    ⟨.mov (.tmp 28), some 29, none⟩,
    ⟨.mov (.tmp 8), some 30, some (29, false)⟩,
    ⟨.mov (.tmp 6), some 31, some (29, false)⟩,
    ⟨.bin .neq (.tmp 30) (.tmp 31), some 32, some (29, false)⟩,
    ⟨.pick (.tmp 29) (.const (.bool true)) (.tmp 32), some 33, none⟩])
  (.cond (.tmp 33) (.seq (.ops [⟨.mov (.const (.bool false)), some 4, none⟩])
  (.ret)) (.skip)))
  (.seq (.ops [⟨.mov (.const (.bool true)), some 4, none⟩])
  (.ret)))))⟩
theorem ok_laws_FnExactTransmitOf : cmpF Try.prog Try.f5 = some c_laws_FnExactTransmitOf := by kernel_rfl

/- laws.FnExactSameReadings -/
def c_laws_FnExactSameReadings : FV := ⟨45, [.tmp 4],
  .seq (.ops [⟨.mov (.const (.bool false)), some 4, none⟩])
  (.seq (.ops [⟨.mov (.const (.int .i64 1048576)), some 5, none⟩])
  (.seq (.ops [⟨.mov (.tmp 0), some 10, none⟩,
    ⟨.mov (.tmp 5), some 11, none⟩,
    ⟨.call 30 [.tmp 10, .tmp 11], some 12, none⟩,
    ⟨.mov (.tmp 12), some 5, none⟩])
  (.seq (.seq (.ops [⟨.mov (.tmp 5), some 13, none⟩,
    ⟨.bin .lss (.tmp 13) (.const (.int .i64 0)), some 14, none⟩])
  (.cond (.tmp 14) (.seq (.ops [⟨.mov (.const (.bool true)), some 4, none⟩])
  (.ret)) (.skip)))
  (.seq (.ops [⟨.mov (.tmp 1), some 15, none⟩,
    ⟨.mov (.tmp 5), some 16, none⟩,
    ⟨.call 30 [.tmp 15, .tmp 16], some 17, none⟩,
    ⟨.mov (.tmp 17), some 5, none⟩])
  (.seq (.seq (.ops [⟨.mov (.tmp 5), some 18, none⟩,
    ⟨.bin .lss (.tmp 18) (.const (.int .i64 0)), some 19, none⟩])
  (.cond (.tmp 19) (.seq (.ops [⟨.mov (.const (.bool true)), some 4, none⟩])
  (.ret)) (.skip)))
  (.seq (.ops [⟨.mov (.tmp 0), some 20, none⟩,
    ⟨.call 32 [.tmp 20], some 21, none⟩,
    ⟨.mov (.tmp 1), some 22, none⟩,
    ⟨.call 32 [.tmp 22], some 23, none⟩,
    ⟨.call 31 [.tmp 21, .tmp 23], some 24, none⟩,
    ⟨.mov (.tmp 24), some 6, none⟩])
  (.seq (.ops [⟨.mov (.tmp 0), some 25, none⟩,
    ⟨.call 32 [.tmp 25], some 26, none⟩,
    ⟨.mov (.tmp 26), some 7, none⟩])
  (.seq (.ops [⟨.mov (.tmp 1), some 27, none⟩,
    ⟨.call 32 [.tmp 27], some 28, none⟩,
    ⟨.mov (.tmp 28), some 8, none⟩])
  (.seq (.ops [⟨.mov (.tmp 7), some 29, none⟩,
    ⟨.mov (.tmp 8), some 30, none⟩,
    ⟨.call 33 [.tmp 29, .tmp 30], some 31, none⟩,
    ⟨.mov (.tmp 31), some 9, none⟩])
  (.seq (.seq (.ops [⟨.mov (.tmp 9), some 32, none⟩,
    ⟨.mov (.tmp 6), some 33, none⟩,
    ⟨.beq true (.tmp 32) (.tmp 33), some 34, none⟩])
  (.cond (.tmp 34) (.seq (.ops [⟨.mov (.const (.bool false)), some 4, none⟩])
  (.ret)) (.skip)))
  (.seq (.seq (.ops [⟨.mov (.tmp 7), some 35, none⟩,
    ⟨.mov (.tmp 0), some 36, none⟩,
    ⟨.call 32 [.tmp 36], some 37, none⟩,
    ⟨.call 34 [.tmp 35, .tmp 37], some 38, none⟩,
    ⟨.un .not (.tmp 38), some 39, none⟩])
  (.cond (.tmp 39) (.seq (.ops [⟨.mov (.const (.bool false)), some 4, none⟩])
  (.ret)) (.skip)))
  (.seq (.seq (.ops [⟨.mov (.tmp 8), some 40, none⟩,
    ⟨.mov (.tmp 1), some 41, none⟩,
    ⟨.call 32 [.tmp 41], some 42, none⟩,
    ⟨.call 34 [.tmp 40, .tmp 42], some 43, none⟩,
    ⟨.un .not (.tmp 43), some 44, none⟩])
  (.cond (.tmp 44) (.seq (.ops [⟨.mov (.const (.bool false)), some 4, none⟩])
  (.ret)) (.skip)))
  (.seq (.ops [⟨.mov (.const (.bool true)), some 4, none⟩])
  (.ret))))))))))))))⟩
theorem ok_laws_FnExactSameReadings : cmpF Try.prog Try.f6 = some c_laws_FnExactSameReadings := by kernel_rfl

/- laws.FnExactImageOf -/
def c_laws_FnExactImageOf : FV := ⟨36, [.tmp 6],
  .seq (.ops [⟨.box 35 (.tmp 0), some 3, none⟩,
    ⟨.mov (.const (.bool false)), some 6, none⟩])
  (.seq (.ops [⟨.load (some 3) (.tmp 3), some 12, none⟩,
    ⟨.call 36 [.tmp 12], some 13, none⟩,
    ⟨.mov (.tmp 1), some 14, none⟩,
    ⟨.mov (.tmp 2), some 15, none⟩,
    ⟨.call 35 [.tmp 13, .tmp 14, .tmp 15], some 16, none⟩,
    ⟨.mov (.tmp 16), some 11, none⟩,
    ⟨.ext (.tmp 11) 0, some 17, none⟩,
    ⟨.ext (.tmp 11) 1, some 18, none⟩,
    ⟨.alloc 39 (.agg (#[.int .i8 0, .int .i8 0, .float .f32 0])), some 7, none⟩,
    ⟨.store 3 (.tmp 7) (.tmp 17), none, none⟩,
    ⟨.mov (.tmp 18), some 8, none⟩])
  (.seq (.ops [⟨.load (some 3) (.tmp 3), some 20, none⟩,
    ⟨.call 36 [.tmp 20], some 21, none⟩,
    ⟨.mov (.tmp 1), some 22, none⟩,
    ⟨.mov (.tmp 2), some 23, none⟩,
    ⟨.call 37 [.tmp 21, .tmp 22, .tmp 23], some 24, none⟩,
    ⟨.mov (.tmp 24), some 19, none⟩,
    ⟨.ext (.tmp 19) 0, some 25, none⟩,
    ⟨.ext (.tmp 19) 1, some 26, none⟩,
    ⟨.alloc 39 (.agg (#[.int .i8 0, .int .i8 0, .float .f32 0])), some 9, none⟩,
    ⟨.store 3 (.tmp 9) (.tmp 25), none, none⟩,
    ⟨.mov (.tmp 26), some 10, none⟩])
  (.seq (.seq (.ops [⟨.load (some 3) (.tmp 9), some 27, none⟩,
    ⟨.load (some 3) (.tmp 7), some 28, none⟩,
    ⟨.call 38 [.tmp 27, .tmp 28], some 29, none⟩,
    ⟨.un .not (.tmp 29), some 30, none⟩,
    ⟨.mov (.tmp 30), some 31, none⟩,
    ⟨.mov (.tmp 10), some 32, some (31, false)⟩,
    ⟨.mov (.tmp 8), some 33, some (31, false)⟩,
    ⟨.bin .neq (.tmp 32) (.tmp 33), some 34, some (31, false)⟩,
    ⟨.pick (.tmp 31) (.const (.bool true)) (.tmp 34), some 35, none⟩])
  (.cond (.tmp 35) (.seq (.ops [⟨.mov (.const (.bool false)), some 6, none⟩])
  (.ret)) (.skip)))
  (.seq (.ops [⟨.mov (.const (.bool true)), some 6, none⟩])
  (.ret)))))⟩
theorem ok_laws_FnExactImageOf : cmpF Try.prog Try.f7 = some c_laws_FnExactImageOf := by kernel_rfl

/- laws.FnExactValidReadings -/
def c_laws_FnExactValidReadings : FV := ⟨27, [.tmp 2],
  .seq (.ops [⟨.mov (.const (.bool false)), some 2, none⟩])
  (.seq (.ops [⟨.mov (.const (.int .i64 1048576)), some 3, none⟩])
  (.seq (.ops [⟨.mov (.tmp 0), some 7, none⟩,
    ⟨.mov (.tmp 3), some 8, none⟩,
    ⟨.call 30 [.tmp 7, .tmp 8], some 9, none⟩,
    ⟨.mov (.tmp 9), some 3, none⟩])
  (.seq (.seq (.ops [⟨.mov (.tmp 3), some 10, none⟩,
    ⟨.bin .lss (.tmp 10) (.const (.int .i64 0)), some 11, none⟩])
  (.cond (.tmp 11) (.seq (.ops [⟨.mov (.const (.bool true)), some 2, none⟩])
  (.ret)) (.skip)))
  (.seq (.ops [⟨.mov (.tmp 0), some 12, none⟩,
    ⟨.call 32 [.tmp 12], some 13, none⟩,
    ⟨.call 39 [.tmp 13], some 14, none⟩,
    ⟨.mov (.tmp 14), some 4, none⟩])
  (.seq (.ops [⟨.mov (.tmp 0), some 15, none⟩,
    ⟨.call 32 [.tmp 15], some 16, none⟩,
    ⟨.mov (.tmp 16), some 5, none⟩])
  (.seq (.ops [⟨.mov (.tmp 5), some 17, none⟩,
    ⟨.call 40 [.tmp 17], some 18, none⟩,
    ⟨.mov (.tmp 18), some 6, none⟩])
  (.seq (.seq (.ops [⟨.mov (.tmp 6), some 19, none⟩,
    ⟨.mov (.tmp 4), some 20, none⟩,
    ⟨.beq true (.tmp 19) (.tmp 20), some 21, none⟩])
  (.cond (.tmp 21) (.seq (.ops [⟨.mov (.const (.bool false)), some 2, none⟩])
  (.ret)) (.skip)))
  (.seq (.seq (.ops [⟨.mov (.tmp 5), some 22, none⟩,
    ⟨.mov (.tmp 0), some 23, none⟩,
    ⟨.call 32 [.tmp 23], some 24, none⟩,
    ⟨.call 34 [.tmp 22, .tmp 24], some 25, none⟩,
    ⟨.un .not (.tmp 25), some 26, none⟩])
  (.cond (.tmp 26) (.seq (.ops [⟨.mov (.const (.bool false)), some 2, none⟩])
  (.ret)) (.skip)))
  (.seq (.ops [⟨.mov (.const (.bool true)), some 2, none⟩])
  (.ret))))))))))⟩
theorem ok_laws_FnExactValidReadings : cmpF Try.prog Try.f8 = some c_laws_FnExactValidReadings := by kernel_rfl

/- laws.FnExactSameWells -/
def c_laws_FnExactSameWells : FV := ⟨45, [.tmp 4],
  .seq (.ops [⟨.mov (.const (.bool false)), some 4, none⟩])
  (.seq (.ops [⟨.mov (.const (.int .i64 1048576)), some 5, none⟩])
  (.seq (.ops [⟨.mov (.tmp 0), some 10, none⟩,
    ⟨.mov (.tmp 5), some 11, none⟩,
    ⟨.call 41 [.tmp 10, .tmp 11], some 12, none⟩,
    ⟨.mov (.tmp 12), some 5, none⟩])
  (.seq (.seq (.ops [⟨.mov (.tmp 5), some 13, none⟩,
    ⟨.bin .lss (.tmp 13) (.const (.int .i64 0)), some 14, none⟩])
  (.cond (.tmp 14) (.seq (.ops [⟨.mov (.const (.bool true)), some 4, none⟩])
  (.ret)) (.skip)))
  (.seq (.ops [⟨.mov (.tmp 1), some 15, none⟩,
    ⟨.mov (.tmp 5), some 16, none⟩,
    ⟨.call 41 [.tmp 15, .tmp 16], some 17, none⟩,
    ⟨.mov (.tmp 17), some 5, none⟩])
  (.seq (.seq (.ops [⟨.mov (.tmp 5), some 18, none⟩,
    ⟨.bin .lss (.tmp 18) (.const (.int .i64 0)), some 19, none⟩])
  (.cond (.tmp 19) (.seq (.ops [⟨.mov (.const (.bool true)), some 4, none⟩])
  (.ret)) (.skip)))
  (.seq (.ops [⟨.mov (.tmp 0), some 20, none⟩,
    ⟨.call 43 [.tmp 20], some 21, none⟩,
    ⟨.mov (.tmp 1), some 22, none⟩,
    ⟨.call 43 [.tmp 22], some 23, none⟩,
    ⟨.call 42 [.tmp 21, .tmp 23], some 24, none⟩,
    ⟨.mov (.tmp 24), some 6, none⟩])
  (.seq (.ops [⟨.mov (.tmp 0), some 25, none⟩,
    ⟨.call 43 [.tmp 25], some 26, none⟩,
    ⟨.mov (.tmp 26), some 7, none⟩])
  (.seq (.ops [⟨.mov (.tmp 1), some 27, none⟩,
    ⟨.call 43 [.tmp 27], some 28, none⟩,
    ⟨.mov (.tmp 28), some 8, none⟩])
  (.seq (.ops [⟨.mov (.tmp 7), some 29, none⟩,
    ⟨.mov (.tmp 8), some 30, none⟩,
    ⟨.call 44 [.tmp 29, .tmp 30], some 31, none⟩,
    ⟨.mov (.tmp 31), some 9, none⟩])
  (.seq (.seq (.ops [⟨.mov (.tmp 9), some 32, none⟩,
    ⟨.mov (.tmp 6), some 33, none⟩,
    ⟨.beq true (.tmp 32) (.tmp 33), some 34, none⟩])
  (.cond (.tmp 34) (.seq (.ops [⟨.mov (.const (.bool false)), some 4, none⟩])
  (.ret)) (.skip)))
  (.seq (.seq (.ops [⟨.mov (.tmp 7), some 35, none⟩,
    ⟨.mov (.tmp 0), some 36, none⟩,
    ⟨.call 43 [.tmp 36], some 37, none⟩,
    ⟨.call 45 [.tmp 35, .tmp 37], some 38, none⟩,
    ⟨.un .not (.tmp 38), some 39, none⟩])
  (.cond (.tmp 39) (.seq (.ops [⟨.mov (.const (.bool false)), some 4, none⟩])
  (.ret)) (.skip)))
  (.seq (.seq (.ops [⟨.mov (.tmp 8), some 40, none⟩,
    ⟨.mov (.tmp 1), some 41, none⟩,
    ⟨.call 43 [.tmp 41], some 42, none⟩,
    ⟨.call 45 [.tmp 40, .tmp 42], some 43, none⟩,
    ⟨.un .not (.tmp 43), some 44, none⟩])
  (.cond (.tmp 44) (.seq (.ops [⟨.mov (.const (.bool false)), some 4, none⟩])
  (.ret)) (.skip)))
  (.seq (.ops [⟨.mov (.const (.bool true)), some 4, none⟩])
  (.ret))))))))))))))⟩
theorem ok_laws_FnExactSameWells : cmpF Try.prog Try.f9 = some c_laws_FnExactSameWells := by kernel_rfl

/- laws.FnExactTiesIn -/
def c_laws_FnExactTiesIn : FV := ⟨40, [.tmp 2],
  .seq (.ops [⟨.mov (.const (.bool false)), some 2, none⟩])
  (.seq (.ops [⟨.mov (.const (.int .i64 1048576)), some 3, none⟩])
  (.seq (.ops [⟨.mov (.tmp 0), some 9, none⟩,
    ⟨.mov (.tmp 3), some 10, none⟩,
    ⟨.call 30 [.tmp 9, .tmp 10], some 11, none⟩,
    ⟨.mov (.tmp 11), some 3, none⟩])
  (.seq (.seq (.ops [⟨.mov (.tmp 3), some 12, none⟩,
    ⟨.bin .lss (.tmp 12) (.const (.int .i64 0)), some 13, none⟩])
  (.cond (.tmp 13) (.seq (.ops [⟨.mov (.const (.bool true)), some 2, none⟩])
  (.ret)) (.skip)))
  (.seq (.ops [⟨.mov (.tmp 0), some 15, none⟩,
    ⟨.call 32 [.tmp 15], some 16, none⟩,
    ⟨.call 46 [.tmp 16], some 17, none⟩,
    ⟨.mov (.tmp 17), some 14, none⟩,
    ⟨.ext (.tmp 14) 0, some 18, none⟩,
    ⟨.ext (.tmp 14) 1, some 19, none⟩,
    ⟨.mov (.tmp 18), some 4, none⟩,
    ⟨.mov (.tmp 19), some 5, none⟩])
  (.seq (.ops [⟨.mov (.tmp 0), some 20, none⟩,
    ⟨.call 32 [.tmp 20], some 21, none⟩,
    ⟨.mov (.tmp 21), some 6, none⟩])
  (.seq (.ops [⟨.mov (.tmp 6), some 23, none⟩,
    ⟨.call 47 [.tmp 23], some 24, none⟩,
    ⟨.mov (.tmp 24), some 22, none⟩,
    ⟨.ext (.tmp 22) 0, some 25, none⟩,
    ⟨.ext (.tmp 22) 1, some 26, none⟩,
    ⟨.mov (.tmp 25), some 7, none⟩,
    ⟨.mov (.tmp 26), some 8, none⟩])
  (.seq (.seq (.ops [⟨.mov (.tmp 7), some 27, none⟩,
    ⟨.mov (.tmp 4), some 28, none⟩,
    ⟨.bin .neq (.tmp 27) (.tmp 28), some 29, none⟩,
    ⟨.mov (.tmp 29), some 30, none⟩,
    ⟨.mov (.tmp 8), some 31, some (30, false)⟩,
    ⟨.mov (.tmp 5), some 32, some (30, false)⟩,
    ⟨.bin .neq (.tmp 31) (.tmp 32), some 33, some (30, false)⟩,
    ⟨.pick (.tmp 30) (.const (.bool true)) (.tmp 33), some 34, none⟩])
  (.cond (.tmp 34) (.seq (.ops [⟨.mov (.const (.bool false)), some 2, none⟩])
  (.ret)) (.skip)))
  (.seq (.seq (.ops [⟨.mov (.tmp 6), some 35, none⟩,
    ⟨.mov (.tmp 0), some 36, none⟩,
    ⟨.call 32 [.tmp 36], some 37, none⟩,
    ⟨.call 34 [.tmp 35, .tmp 37], some 38, none⟩,
    ⟨.un .not (.tmp 38), some 39, none⟩])
  (.cond (.tmp 39) (.seq (.ops [⟨.mov (.const (.bool false)), some 2, none⟩])
  (.ret)) (.skip)))
  (.seq (.ops [⟨.mov (.const (.bool true)), some 2, none⟩])
  (.ret))))))))))⟩
theorem ok_laws_FnExactTiesIn : cmpF Try.prog Try.f10 = some c_laws_FnExactTiesIn := by kernel_rfl

/- laws.FnExactWellFunction -/
def c_laws_FnExactWellFunction : FV := ⟨28, [.tmp 2],
  .seq (.ops [⟨.mov (.const (.bool false)), some 2, none⟩])
  (.seq (.ops [⟨.mov (.tmp 0), some 8, none⟩,
    ⟨.call 24 [.tmp 8], some 9, none⟩,
    ⟨.mov (.tmp 9), some 7, none⟩,
    ⟨.ext (.tmp 7) 0, some 10, none⟩,
    ⟨.ext (.tmp 7) 1, some 11, none⟩,
    ⟨.mov (.tmp 10), some 3, none⟩,
    ⟨.mov (.tmp 11), some 4, none⟩])
  (.seq (.ops [⟨.mov (.tmp 0), some 13, none⟩,
    ⟨.call 23 [.tmp 13], some 14, none⟩,
    ⟨.mov (.tmp 14), some 12, none⟩,
    ⟨.ext (.tmp 12) 0, some 15, none⟩,
    ⟨.ext (.tmp 12) 1, some 16, none⟩,
    ⟨.mov (.tmp 15), some 5, none⟩,
    ⟨.mov (.tmp 16), some 6, none⟩])
  (.seq (.seq (.ops [⟨.mov (.tmp 5), some 17, none⟩,
    ⟨.convF .f64 (.tmp 17), some 18, none⟩,
    ⟨.mov (.tmp 3), some 19, none⟩,
    ⟨.convF .f64 (.tmp 19), some 20, none⟩,
    ⟨.call 26 [.tmp 18, .tmp 20], some 21, none⟩,
    ⟨.un .not (.tmp 21), some 22, none⟩,
    ⟨.mov (.tmp 22), some 23, none⟩,
    ⟨.mov (.tmp 6), some 24, some (23, false)⟩,
    ⟨.mov (.tmp 4), some 25, some (23, false)⟩,
    ⟨.bin .neq (.tmp 24) (.tmp 25), some 26, some (23, false)⟩,
    ⟨.pick (.tmp 23) (.const (.bool true)) (.tmp 26), some 27, none⟩])
  (.cond (.tmp 27) (.seq (.ops [⟨.mov (.const (.bool false)), some 2, none⟩])
  (.ret)) (.skip)))
  (.seq (.ops [⟨.mov (.const (.bool true)), some 2, none⟩])
  (.ret)))))⟩
theorem ok_laws_FnExactWellFunction : cmpF Try.prog Try.f11 = some c_laws_FnExactWellFunction := by kernel_rfl

/- laws.FnExactLoggerOf -/
def c_laws_FnExactLoggerOf : FV := ⟨12, [.tmp 2],
  .seq (.ops [⟨.mov (.const (.bool false)), some 2, none⟩])
  (.seq (.ops [⟨.mov (.tmp 0), some 5, none⟩,
    ⟨.call 48 [.tmp 5], some 6, none⟩,
    ⟨.mov (.tmp 6), some 3, none⟩])
  (.seq (.ops [⟨.mov (.tmp 0), some 7, none⟩,
    ⟨.call 49 [.tmp 7], some 8, none⟩,
    ⟨.mov (.tmp 8), some 4, none⟩])
  (.seq (.seq (.ops [⟨.mov (.tmp 4), some 9, none⟩,
    ⟨.mov (.tmp 3), some 10, none⟩,
    ⟨.bin .neq (.tmp 9) (.tmp 10), some 11, none⟩])
  (.cond (.tmp 11) (.seq (.ops [⟨.mov (.const (.bool false)), some 2, none⟩])
  (.ret)) (.skip)))
  (.seq (.ops [⟨.mov (.const (.bool true)), some 2, none⟩])
  (.ret)))))⟩
theorem ok_laws_FnExactLoggerOf : cmpF Try.prog Try.f12 = some c_laws_FnExactLoggerOf := by kernel_rfl

/- laws.FnExactArgumentAt -/
def c_laws_FnExactArgumentAt : FV := ⟨48, [.tmp 10],
  .seq (.ops [⟨.box 68 (.tmp 0), some 5, none⟩,
    ⟨.box 35 (.tmp 1), some 6, none⟩,
    ⟨.mov (.const (.bool false)), some 10, none⟩])
  (.seq (.bops [⟨.load (some 2) (.tmp 5), some 16, none⟩,
    ⟨.call 51 [.tmp 16], some 17, none⟩,
    ⟨.load (some 3) (.tmp 6), some 18, none⟩,
    ⟨.call 36 [.tmp 18], some 19, none⟩,
    ⟨.mov (.tmp 2), some 20, none⟩,
    ⟨.mov (.tmp 3), some 21, none⟩,
    ⟨.mov (.tmp 4), some 22, none⟩,
    ⟨.call 50 [.tmp 17, .tmp 19, .tmp 20, .tmp 21, .tmp 22], some 23, none⟩,
    ⟨.mov (.tmp 23), some 15, none⟩,
    ⟨.ext (.tmp 15) 0, some 24, none⟩,
    ⟨.ext (.tmp 15) 1, some 25, none⟩,
    ⟨.mov (.tmp 24), some 11, none⟩,
    ⟨.mov (.tmp 25), some 12, none⟩])
  (.seq (.bops [⟨.load (some 2) (.tmp 5), some 27, none⟩,
    ⟨.call 51 [.tmp 27], some 28, none⟩,
    ⟨.load (some 3) (.tmp 6), some 29, none⟩,
    ⟨.call 36 [.tmp 29], some 30, none⟩,
    ⟨.mov (.tmp 2), some 31, none⟩,
    ⟨.mov (.tmp 3), some 32, none⟩,
    ⟨.mov (.tmp 4), some 33, none⟩,
    ⟨.call 52 [.tmp 28, .tmp 30, .tmp 31, .tmp 32, .tmp 33], some 34, none⟩,
    ⟨.mov (.tmp 34), some 26, none⟩,
    ⟨.ext (.tmp 26) 0, some 35, none⟩,
    ⟨.ext (.tmp 26) 1, some 36, none⟩,
    ⟨.mov (.tmp 35), some 13, none⟩,
    ⟨.mov (.tmp 36), some 14, none⟩])
  (.seq (.seq (.ops [⟨.mov (.tmp 13), some 37, none⟩,
    ⟨.convF .f64 (.tmp 37), some 38, none⟩,
    ⟨.mov (.tmp 11), some 39, none⟩,
    ⟨.convF .f64 (.tmp 39), some 40, none⟩,
    ⟨.call 26 [.tmp 38, .tmp 40], some 41, none⟩,
    ⟨.un .not (.tmp 41), some 42, none⟩,
    ⟨.mov (.tmp 42), some 43, none⟩,
    ⟨.mov (.tmp 14), some 44, some (43, false)⟩,
    ⟨.mov (.tmp 12), some 45, some (43, false)⟩,
    ⟨.bin .neq (.tmp 44) (.tmp 45), some 46, some (43, false)⟩,
    ⟨.pick (.tmp 43) (.const (.bool true)) (.tmp 46), some 47, none⟩])
  (.cond (.tmp 47) (.seq (.ops [⟨.mov (.const (.bool false)), some 10, none⟩])
  (.ret)) (.skip)))
  (.seq (.ops [⟨.mov (.const (.bool true)), some 10, none⟩])
  (.ret)))))⟩
theorem ok_laws_FnExactArgumentAt : cmpF Try.prog Try.f13 = some c_laws_FnExactArgumentAt := by kernel_rfl

/- laws.FnExactWithImages -/
def c_laws_FnExactWithImages : FV := ⟨106, [.tmp 6],
  .seq (.ops [⟨.mov (.const (.bool false)), some 6, none⟩])
  (.seq (.ops [⟨.mov (.const (.int .i64 1048576)), some 7, none⟩])
  (.seq (.ops [⟨.mov (.tmp 0), some 18, none⟩,
    ⟨.mov (.tmp 7), some 19, none⟩,
    ⟨.call 41 [.tmp 18, .tmp 19], some 20, none⟩,
    ⟨.mov (.tmp 20), some 7, none⟩])
  (.seq (.seq (.ops [⟨.mov (.tmp 7), some 21, none⟩,
    ⟨.bin .lss (.tmp 21) (.const (.int .i64 0)), some 22, none⟩])
  (.cond (.tmp 22) (.seq (.ops [⟨.mov (.const (.bool true)), some 6, none⟩])
  (.ret)) (.skip)))
  (.seq (.ops [⟨.mov (.tmp 0), some 24, none⟩,
    ⟨.call 43 [.tmp 24], some 25, none⟩,
    ⟨.mov (.tmp 1), some 26, none⟩,
    ⟨.mov (.tmp 2), some 27, none⟩,
    ⟨.call 53 [.tmp 25, .tmp 26, .tmp 27], some 28, none⟩,
    ⟨.mov (.tmp 28), some 23, none⟩,
    ⟨.ext (.tmp 23) 0, some 29, none⟩,
    ⟨.ext (.tmp 23) 1, some 30, none⟩,
    ⟨.mov (.tmp 29), some 8, none⟩,
    ⟨.mov (.tmp 30), some 9, none⟩])
  (.seq (.ops [⟨.mov (.tmp 0), some 31, none⟩,
    ⟨.call 43 [.tmp 31], some 32, none⟩,
    ⟨.mov (.tmp 32), some 10, none⟩])
  (.seq (.ops [⟨.mov (.tmp 10), some 34, none⟩,
    ⟨.mov (.tmp 1), some 35, none⟩,
    ⟨.mov (.tmp 2), some 36, none⟩,
    ⟨.call 54 [.tmp 34, .tmp 35, .tmp 36], some 37, none⟩,
    ⟨.mov (.tmp 37), some 33, none⟩,
    ⟨.ext (.tmp 33) 0, some 38, none⟩,
    ⟨.ext (.tmp 33) 1, some 39, none⟩,
    ⟨.mov (.tmp 38), some 11, none⟩,
    ⟨.mov (.tmp 39), some 12, none⟩])
  (.seq (.seq (.ops [⟨.mov (.tmp 11), some 40, none⟩,
    ⟨.mov (.tmp 8), some 41, none⟩,
    ⟨.call 45 [.tmp 40, .tmp 41], some 42, none⟩,
    ⟨.un .not (.tmp 42), some 43, none⟩,
    ⟨.mov (.tmp 43), some 44, none⟩,
    ⟨.mov (.tmp 12), some 45, some (44, false)⟩,
    ⟨.mov (.tmp 9), some 46, some (44, false)⟩,
    ⟨.bin .neq (.tmp 45) (.tmp 46), some 47, some (44, false)⟩,
    ⟨.pick (.tmp 44) (.const (.bool true)) (.tmp 47), some 48, none⟩])
  (.cond (.tmp 48) (.seq (.ops [⟨.mov (.const (.bool false)), some 6, none⟩])
  (.ret)) (.skip)))
  (.seq (.seq (.ops [⟨.mov (.tmp 10), some 49, none⟩,
    ⟨.mov (.tmp 0), some 50, none⟩,
    ⟨.call 43 [.tmp 50], some 51, none⟩,
    ⟨.call 45 [.tmp 49, .tmp 51], some 52, none⟩,
    ⟨.un .not (.tmp 52), some 53, none⟩])
  (.cond (.tmp 53) (.seq (.ops [⟨.mov (.const (.bool false)), some 6, none⟩])
  (.ret)) (.skip)))
  (.seq (.ops [⟨.mov (.const (.int .i64 1)), some 13, none⟩])
  (.seq (.ops [⟨.mov (.tmp 10), some 54, none⟩,
    ⟨.mov (.tmp 13), some 55, none⟩,
    ⟨.call 55 [.tmp 54, .tmp 55], some 56, none⟩,
    ⟨.mov (.tmp 56), some 13, none⟩])
  (.seq (.seq (.ops [⟨.mov (.tmp 13), some 57, none⟩,
    ⟨.bin .lss (.tmp 57) (.const (.int .i64 0)), some 58, none⟩,
    ⟨.mov (.tmp 58), some 59, none⟩,
    ⟨.mov (.tmp 11), some 60, some (59, false)⟩,
    ⟨.mov (.tmp 8), some 61, some (59, false)⟩,
    ⟨.call 45 [.tmp 60, .tmp 61], some 62, some (59, false)⟩,
    ⟨.un .not (.tmp 62), some 63, some (59, false)⟩,
    ⟨.pick (.tmp 59) (.const (.bool true)) (.tmp 63), some 64, none⟩,
    ⟨.mov (.tmp 64), some 65, none⟩,
    ⟨.mov (.tmp 12), some 66, some (65, false)⟩,
    ⟨.mov (.tmp 9), some 67, some (65, false)⟩,
    ⟨.bin .neq (.tmp 66) (.tmp 67), some 68, some (65, false)⟩,
    ⟨.pick (.tmp 65) (.const (.bool true)) (.tmp 68), some 69, none⟩])
  (.cond (.tmp 69) (.seq (.ops [⟨.mov (.const (.bool false)), some 6, none⟩])
  (.ret)) (.skip)))
  (.seq (.ops [⟨.mov (.const (.int .i64 1)), some 14, none⟩])
  (.seq (.ops [⟨.mov (.tmp 11), some 70, none⟩,
    ⟨.mov (.tmp 14), some 71, none⟩,
    ⟨.call 55 [.tmp 70, .tmp 71], some 72, none⟩,
    ⟨.mov (.tmp 72), some 14, none⟩])
  (.seq (.ops [⟨.mov (.const (.int .i64 1)), some 15, none⟩])
  (.seq (.ops [⟨.mov (.tmp 11), some 73, none⟩,
    ⟨.mov (.tmp 15), some 74, none⟩,
    ⟨.call 56 [.tmp 73, .tmp 74], some 75, none⟩,
    ⟨.mov (.tmp 75), some 15, none⟩])
  (.seq (.seq (.ops [⟨.mov (.tmp 15), some 76, none⟩,
    ⟨.bin .lss (.tmp 76) (.const (.int .i64 0)), some 77, none⟩])
  (.cond (.tmp 77) (.seq (.ops [⟨.mov (.const (.bool false)), some 6, none⟩])
  (.ret)) (.skip)))
  (.seq (.seq (.ops [⟨.mov (.tmp 15), some 78, none⟩,
    ⟨.mov (.tmp 14), some 79, none⟩,
    ⟨.bin .neq (.tmp 78) (.tmp 79), some 80, none⟩])
  (.cond (.tmp 80) (.seq (.ops [⟨.mov (.const (.bool false)), some 6, none⟩])
  (.ret)) (.skip)))
  (.seq (.ops [⟨.mov (.tmp 0), some 82, none⟩,
    ⟨.call 43 [.tmp 82], some 83, none⟩,
    ⟨.mov (.tmp 1), some 84, none⟩,
    ⟨.mov (.tmp 2), some 85, none⟩,
    ⟨.call 54 [.tmp 83, .tmp 84, .tmp 85], some 86, none⟩,
    ⟨.mov (.tmp 86), some 81, none⟩,
    ⟨.ext (.tmp 81) 0, some 87, none⟩,
    ⟨.ext (.tmp 81) 1, some 88, none⟩,
    ⟨.mov (.tmp 87), some 16, none⟩,
    ⟨.mov (.tmp 88), some 17, none⟩])
  (.seq (.seq (.ops [⟨.mov (.tmp 16), some 89, none⟩,
    ⟨.mov (.tmp 8), some 90, none⟩,
    ⟨.call 45 [.tmp 89, .tmp 90], some 91, none⟩,
    ⟨.un .not (.tmp 91), some 92, none⟩,
    ⟨.mov (.tmp 92), some 93, none⟩,
    ⟨.mov (.tmp 17), some 94, some (93, false)⟩,
    ⟨.mov (.tmp 9), some 95, some (93, false)⟩,
    ⟨.bin .neq (.tmp 94) (.tmp 95), some 96, some (93, false)⟩,
    ⟨.pick (.tmp 93) (.const (.bool true)) (.tmp 96), some 97, none⟩])
  (.cond (.tmp 97) (.seq (.ops [⟨.mov (.const (.bool false)), some 6, none⟩])
  (.ret)) (.skip)))
  (.seq (.ops [⟨.mov (.const (.int .i64 1)), some 15, none⟩])
  (.seq (.ops [⟨.mov (.tmp 11), some 98, none⟩,
    ⟨.mov (.tmp 15), some 99, none⟩,
    ⟨.call 56 [.tmp 98, .tmp 99], some 100, none⟩,
    ⟨.mov (.tmp 100), some 15, none⟩])
  (.seq (.seq (.ops [⟨.mov (.tmp 15), some 101, none⟩,
    ⟨.bin .lss (.tmp 101) (.const (.int .i64 0)), some 102, none⟩])
  (.cond (.tmp 102) (.seq (.ops [⟨.mov (.const (.bool false)), some 6, none⟩])
  (.ret)) (.skip)))
  (.seq (.seq (.ops [⟨.mov (.tmp 15), some 103, none⟩,
    ⟨.mov (.tmp 14), some 104, none⟩,
    ⟨.bin .neq (.tmp 103) (.tmp 104), some 105, none⟩])
  (.cond (.tmp 105) (.seq (.ops [⟨.mov (.const (.bool false)), some 6, none⟩])
  (.ret)) (.skip)))
  (.seq (.ops [⟨.mov (.const (.bool true)), some 6, none⟩])
  (.ret)))))))))))))))))))))))))⟩
theorem ok_laws_FnExactWithImages : cmpF Try.prog Try.f14 = some c_laws_FnExactWithImages := by kernel_rfl

end Go.Proofs.Ytngfhggdombdgaa
