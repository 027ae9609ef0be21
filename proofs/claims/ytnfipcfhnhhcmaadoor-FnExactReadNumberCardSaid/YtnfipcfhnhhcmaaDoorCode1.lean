/- The code of the Go functions in the generator's own form, printed by a program of mine (gen.py) out of the loaded program; each with the check that it is so. -/
import Derived.Test.YtnfipcfhnhhcmaaDoorVcFn
import Derived.Test.YtnfipcfhnhhcmaaDoorGeo
import Derived.Test.YtnfipcfhnhhcmaaDoorRows
import Derived.KernelRfl
namespace Go.Proofs.YtnfipcfhnhhcmaaDoor
open Go Go.Fl Go.Vc
set_option linter.all false
set_option maxRecDepth 100000

/- internal/strconv.isPowerOfTwo -/
def c_internal_strconv_isPowerOfTwo : FV := ⟨8, [.tmp 2],
  .seq (.ops [⟨.mov (.const (.bool false)), some 2, none⟩])
  (.seq (.ops [⟨.mov (.tmp 0), some 3, none⟩,
    ⟨.mov (.tmp 0), some 4, none⟩,
    ⟨.bin .sub (.tmp 4) (.const (.int .i64 1)), some 5, none⟩,
    ⟨.bin .and (.tmp 3) (.tmp 5), some 6, none⟩,
    ⟨.bin .eql (.tmp 6) (.const (.int .i64 0)), some 7, none⟩,
    ⟨.mov (.tmp 7), some 2, none⟩])
  (.ret))⟩
theorem ok_internal_strconv_isPowerOfTwo : cmpF Tryd.prog Tryd.f46 = some c_internal_strconv_isPowerOfTwo := by kernel_rfl

/- math/bits.TrailingZeros -/
def c_math_bits_TrailingZeros : FV := ⟨8, [.tmp 2],
  .seq (.ops [⟨.mov (.const (.int .i64 0)), some 2, none⟩])
  (.seq (.cond (.const (.bool false)) (.seq (.ops [⟨.mov (.tmp 0), some 3, none⟩,
    ⟨.convI .u32 (.tmp 3), some 4, none⟩,
    ⟨.call 53 [.tmp 4], some 5, none⟩,
    ⟨.mov (.tmp 5), some 2, none⟩])
  (.ret)) (.skip))
  (.seq (.ops [⟨.mov (.tmp 0), some 6, none⟩,
    ⟨.call 54 [.tmp 6], some 7, none⟩,
    ⟨.mov (.tmp 7), some 2, none⟩])
  (.ret)))⟩
theorem ok_math_bits_TrailingZeros : cmpF Tryd.prog Tryd.f47 = some c_math_bits_TrailingZeros := by kernel_rfl

/- math/bits.TrailingZeros64 -/
def c_math_bits_TrailingZeros64 : FV := ⟨14, [.tmp 2],
  .seq (.ops [⟨.mov (.const (.int .i64 0)), some 2, none⟩])
  (.seq (.seq (.ops [⟨.mov (.tmp 0), some 3, none⟩,
    ⟨.bin .eql (.tmp 3) (.const (.int .u64 0)), some 4, none⟩])
  (.cond (.tmp 4) (.seq (.ops [⟨.mov (.const (.int .i64 64)), some 2, none⟩])
  (.ret)) (.skip)))
  (.seq (.ops [⟨.mov (.tmp 0), some 5, none⟩,
    ⟨.mov (.tmp 0), some 6, none⟩,
    ⟨.un .neg (.tmp 6), some 7, none⟩,
    ⟨.bin .and (.tmp 5) (.tmp 7), some 8, none⟩,
    ⟨.bin .mul (.tmp 8) (.const (.int .u64 285870213051353865)), some 9, none⟩,
    ⟨.bin .shr (.tmp 9) (.const (.int .u64 58)), some 10, none⟩,
    ⟨.idxA 64 1 (.global 6) (.tmp 10), some 11, none⟩,
    ⟨.load none (.tmp 11), some 12, none⟩,
    ⟨.convI .i64 (.tmp 12), some 13, none⟩,
    ⟨.mov (.tmp 13), some 2, none⟩])
  (.ret)))⟩
theorem ok_math_bits_TrailingZeros64 : cmpF Tryd.prog Tryd.f54 = some c_math_bits_TrailingZeros64 := by kernel_rfl

end Go.Proofs.YtnfipcfhnhhcmaaDoor
