/- The generator's equations, one for each form: what a proof rewrites with. -/
import Derived.Test.YtnfipcfhnhhcmaaDoorVcFn
import Derived.Test.YtnfipcfhnhhcmaaDoorGeo
import Derived.Test.YtnfipcfhnhhcmaaDoorWide
set_option linter.all false
namespace Go.Vc
open Go Go.Fl

/-- an equation that a rewriting step names: nothing is unfolded then -/
theorem nd {α : Sort _} {a b : α} (h : a = b) : a = b := h

/-- a canonical word of single precision, widened -/
def wideF (x : Nat) : Nat := cn .f64 (fconv .f32 .f64 x)

/-- a value that is there -/
def getB (o : Option UInt8) (k : Value → Prop) : Prop := match o with | some b => k (.int .u8 b.toNat) | none => False
def getV (o : Option Value) (k : Value → Prop) : Prop := match o with | some v => k v | none => False

section
variable {P : Program} {R K : Kont} {X : List (Nat × Kont)} {ρ : Env} {h : Hp} {k : Value → Prop} {kv : Value → Hp → Prop}
theorem zq00 (l : List VI) : vc P R (.ops l) K X ρ h = vops P l K ρ h := nd rfl
theorem zq01 (hc : Hp) : vbops P hc [] K ρ h = K ρ h := nd rfl
theorem zq02 (hc : Hp) (op : VO) (d : Option Nat) (l : List VI) : vbops P hc (⟨op, d, none⟩ :: l) K ρ h = stepX P hc ⟨op, d, none⟩ (vbops P hc l K) ρ h := nd rfl
theorem zq03 (hc : Hp) (op : VO) (d : Option Nat) (s : Nat) (w : Bool) (l : List VI) :
    vbops P hc (⟨op, d, some (s, w)⟩ :: l) K ρ h = gcond (Env.get ρ s) s w (stepX P hc ⟨op, d, some (s, w)⟩ (vbops P hc l K)) (skipA ⟨op, d, some (s, w)⟩ (vbops P hc l K)) ρ h := nd rfl
theorem zq04 (d : Option Nat) (v : Value) : kx K ρ d h v = K (Env.put ρ d v) h := nd rfl
theorem zq05 (hc : Hp) (d : Option Nat) (v : Value) : ks hc K ρ d v h = (Sub hc h ∧ K (Env.put ρ d v) h) := nd rfl
theorem zq06 : Sub [] h = True := by simp [Sub]
theorem zq07 : Sub h h = True := by simp [Sub]
theorem zq08 (x : Blk) : Sub h (x :: h) = True := by simp only [Sub, eq_iff_iff, iff_true]; exact fun y hy => List.mem_cons_of_mem _ hy
theorem zq09 (a b : V) : vc P R (.seq a b) K X ρ h = vc P R a (vc P R b K X) X ρ h := nd rfl
theorem zq0a (c : Operand) (a b : V) : vc P R (.cond c a b) K X ρ h = vcond (Env.ev ρ c) (vc P R a K X) (vc P R b K X) ρ h := nd rfl
theorem zq0b (id : Nat) (a : V) : vc P R (.block id a) K X ρ h = vc P R a K ((id, K) :: X) ρ h := nd rfl
theorem zq0c (id : Nat) : vc P R (.exit id) K X ρ h = xget X id ρ h := nd rfl
theorem zq0d : vc P R .ret K X ρ h = R ρ h := nd rfl
theorem zq0e : vc P R .skip K X ρ h = K ρ h := nd rfl
theorem zq0f (i : Nat) (A : Kont) (id : Nat) : xget ((i, A) :: X) id ρ h = if id = i then A ρ h else xget X id ρ h := nd rfl
theorem zq0g (A B : Kont) : vcond (.bool true) A B ρ h = A ρ h := by simp [vcond]
theorem zq0h (A B : Kont) : vcond (.bool false) A B ρ h = B ρ h := by simp [vcond]
theorem vcond_split {b : Bool} {A B : Kont} (ht : b = true → A ρ h) (hf : b = false → B ρ h) : vcond (.bool b) A B ρ h := ⟨ht, hf⟩
theorem zq0i : vops P [] K ρ h = K ρ h := nd rfl
theorem zq0j (op : VO) (d : Option Nat) (l : List VI) : vops P (⟨op, d, none⟩ :: l) K ρ h = stepV P op ρ h (kp (vops P l K) ρ d) := nd rfl
theorem zq0k (op : VO) (d : Option Nat) (s : Nat) (w : Bool) (l : List VI) :
    vops P (⟨op, d, some (s, w)⟩ :: l) K ρ h = gcond (Env.get ρ s) s w (stepA P ⟨op, d, some (s, w)⟩ (vops P l K)) (skipA ⟨op, d, some (s, w)⟩ (vops P l K)) ρ h := nd rfl
theorem zq0l (op : VO) (d : Option Nat) (g : Option (Nat × Bool)) : stepA P ⟨op, d, g⟩ K ρ h = stepV P op ρ h (kp K ρ d) := nd rfl
theorem zq0m (op : VO) (d : Option Nat) (g : Option (Nat × Bool)) : skipA ⟨op, d, g⟩ K ρ h = K (Env.put ρ d undef) h := nd rfl
theorem zq0n (d : Option Nat) (v : Value) : kp K ρ d v h = K (Env.put ρ d v) h := nd rfl
theorem zq0o (v : Value) : kh kv h v = kv v h := nd rfl
theorem zq0p : kq K h ρ = K ρ h := nd rfl
section
variable {α : Type} {A B : Env → α → Prop} {x : α}
theorem zq0q (d : Nat) : gcond (.bool true) d true A B ρ x = A ((d, .bool true) :: ρ) x := by simp [gcond]
theorem zq0r (d : Nat) : gcond (.bool true) d false A B ρ x = B ((d, .bool true) :: ρ) x := by simp [gcond]
theorem zq0s (d : Nat) : gcond (.bool false) d true A B ρ x = B ((d, .bool false) :: ρ) x := by simp [gcond]
theorem zq0t (d : Nat) : gcond (.bool false) d false A B ρ x = A ((d, .bool false) :: ρ) x := by simp [gcond]
theorem zq0u (d : Nat) (w : Bool) : gcond undef d w A B ρ x = B ρ x := nd rfl
theorem gcond_split {b : Bool} {d : Nat} {w : Bool} (ht : b = w → A ((d, .bool w) :: ρ) x) (hf : b = !w → B ((d, .bool !w) :: ρ) x) : gcond (.bool b) d w A B ρ x := ⟨ht, hf⟩
end
theorem zq0v (d : Nat) (v : Value) (t : Nat) : Env.get ((d, v) :: ρ) t = if t = d then v else Env.get ρ t := nd rfl
theorem zq0w (t : Nat) : Env.get [] t = undef := nd rfl
theorem zq0x (d : Nat) (v : Value) : Env.put ρ (some d) v = (d, v) :: ρ := nd rfl
theorem zq0y (v : Value) : Env.put ρ none v = ρ := nd rfl
theorem zq0z (t : Nat) : Env.ev ρ (.tmp t) = Env.get ρ t := nd rfl
theorem zq10 (v : Value) : Env.ev ρ (.const v) = v := nd rfl
theorem zq11 (g : Nat) : Env.ev ρ (.global g) = .pointer (some ⟨g, 0, none⟩) := nd rfl
theorem zq12 (f : Nat) : Env.ev ρ (.func f) = .func (.func f) #[] #[] := nd rfl
theorem zq13 (i : Nat) : argEnv [] i = [] := nd rfl
theorem zq14 (v : Value) (vs : List Value) (i : Nat) : argEnv (v :: vs) i = (i, v) :: argEnv vs (i + 1) := nd rfl
theorem zq15 (x : Operand) : stepV P (.mov x) ρ h kv = kv (Env.ev ρ x) h := nd rfl
theorem zq16 (c a b : Operand) : stepV P (.pick c a b) ρ h kv = vpick (Env.ev ρ c) (Env.ev ρ a) (Env.ev ρ b) (kh kv h) := nd rfl
theorem zq17 (n : Option Nat) (x : Operand) : stepV P (.load n x) ρ h kv = vload n (Env.ev ρ x) h (kh kv h) := nd rfl
theorem zq18 (x : Operand) (d : Nat) : stepV P (.addr x d) ρ h kv = vaddr (Env.ev ρ x) d (kh kv h) := nd rfl
theorem zq19 (len esz : Nat) (x i : Operand) : stepV P (.idxA len esz x i) ρ h kv = vidxA len esz (Env.ev ρ x) (Env.ev ρ i) (kh kv h) := nd rfl
theorem zq1a (esz : Nat) (x i : Operand) : stepV P (.idxS esz x i) ρ h kv = vidxS esz (Env.ev ρ x) (Env.ev ρ i) (kh kv h) := nd rfl
theorem zq1b (len esz : Nat) (n : Option Nat) (x i : Operand) : stepV P (.ixA len esz n x i) ρ h kv = vixA len esz n (Env.ev ρ x) (Env.ev ρ i) (kh kv h) := nd rfl
theorem zq1c (x i : Operand) : stepV P (.ixStr x i) ρ h kv = vixStr (Env.ev ρ x) (Env.ev ρ i) (kh kv h) := nd rfl
theorem zq1d (n : Option Nat) (off : Nat) (x : Operand) : stepV P (.fld n off x) ρ h kv = vfld n off (Env.ev ρ x) (kh kv h) := nd rfl
theorem zq1e (op : BinOp) (x y : Operand) : stepV P (.bin op x y) ρ h kv = vbin op (Env.ev ρ x) (Env.ev ρ y) (kh kv h) := nd rfl
theorem zq1f (op : BinOp) (x y : Operand) : stepV P (.fbin op x y) ρ h kv = vfbin op (Env.ev ρ x) (Env.ev ρ y) (kh kv h) := nd rfl
theorem zq1g (ne : Bool) (x y : Operand) : stepV P (.beq ne x y) ρ h kv = vbeq ne (Env.ev ρ x) (Env.ev ρ y) (kh kv h) := nd rfl
theorem zq1h (op : UnOp) (x : Operand) : stepV P (.un op x) ρ h kv = vun op (Env.ev ρ x) (kh kv h) := nd rfl
theorem zq1i (kd : IntKind) (x : Operand) : stepV P (.convI kd x) ρ h kv = vconvI kd (Env.ev ρ x) (kh kv h) := nd rfl
theorem zq1j (kd : FloatKind) (x : Operand) : stepV P (.convF kd x) ρ h kv = vconvF kd (Env.ev ρ x) (kh kv h) := nd rfl
theorem zq1k (x : Operand) (i : Nat) : stepV P (.ext x i) ρ h kv = vext (Env.ev ρ x) i (kh kv h) := nd rfl
theorem zq1l (x : Operand) : stepV P (.nilc x) ρ h kv = vnilc (Env.ev ρ x) (kh kv h) := nd rfl
theorem zq1m (x : Operand) : stepV P (.lenS x) ρ h kv = vlenS (Env.ev ρ x) (kh kv h) := nd rfl
theorem zq1n (x : Operand) : stepV P (.lenL x) ρ h kv = vlenL (Env.ev ρ x) (kh kv h) := nd rfl
theorem zq1o (x : Operand) : stepV P (.f32bits x) ρ h kv = vf32bits (Env.ev ρ x) (kh kv h) := nd rfl
theorem zq1p (x : Operand) : stepV P (.f64bits x) ρ h kv = vf64bits (Env.ev ρ x) (kh kv h) := nd rfl
theorem zq1q (x : Operand) : stepV P (.f64from x) ρ h kv = vf64from (Env.ev ρ x) (kh kv h) := nd rfl
theorem zq1r (pl : List (Nat × Nat)) (z : Array Value) (parts : List (Nat × Operand)) : stepV P (.build pl z parts) ρ h kv = vbuild pl z (parts.map fun p => (p.1, Env.ev ρ p.2)) (kh kv h) := nd rfl
theorem zq1s (esz : Nat) (z : Array Value) (parts : List (Nat × Operand)) : stepV P (.buildA esz z parts) ρ h kv = vbuildA esz z (parts.map fun p => (p.1, Env.ev ρ p.2)) (kh kv h) := nd rfl
theorem zq1t (f : Nat) (a b : List Operand) : stepV P (.mkfn f a b) ρ h kv = kv (.func (.func f) (a.map (Env.ev ρ)).toArray (b.map (Env.ev ρ)).toArray) h := nd rfl
theorem zq1u (esz : Nat) (x : Operand) (lo hi : Option Operand) : stepV P (.slcL esz x lo hi) ρ h kv = vslcL esz (Env.ev ρ x) (lo.map (Env.ev ρ)) (hi.map (Env.ev ρ)) (kh kv h) := nd rfl
theorem zq1v (ne : Bool) (x y : Operand) : stepV P (.aeq ne x y) ρ h kv = vaeq ne (Env.ev ρ x) (Env.ev ρ y) (kh kv h) := nd rfl
theorem zq1w (T : Nat) (x : Operand) : stepV P (.ifc T x) ρ h kv = kv (.iface T (Env.ev ρ x)) h := nd rfl
theorem zq1x (ne : Bool) (x : Operand) : stepV P (.inil ne x) ρ h kv = vinil ne (Env.ev ρ x) (kh kv h) := nd rfl
theorem zq1y (ne : Bool) : vinil ne .nilIface k = k (.bool (!ne)) := nd rfl
theorem zq1z (ne : Bool) (T : Nat) (v : Value) : vinil ne (.iface T v) k = k (.bool ne) := nd rfl
theorem zq20 (x : Operand) : stepV P (.bstr x) ρ h kv = vbstr (Env.ev ρ x) h (kh kv h) := nd rfl
theorem zq21 (x : Operand) : stepV P (.strb x) ρ h kv = vstrb (Env.ev ρ x) h kv := nd rfl
theorem zq22 (s : ByteArray) : vstrb (.string s) h kv = ∀ b cs cap, Fresh b h → (∀ j, j < s.size → cs[j]? = some (.int .u8 (s.data.toList.getD j 0).toNat)) → kv (.slice (some ⟨b, 0, none⟩) s.size cap) (⟨b, cs, anyT, false⟩ :: h) := nd rfl
theorem zq23 (len esz : Nat) (x lo : Operand) : stepV P (.slcA len esz x lo) ρ h kv = vslcA len esz (Env.ev ρ x) (Env.ev ρ lo) (kh kv h) := nd rfl
theorem zq24 (len esz b off : Nat) (kd : IntKind) (l : Int) : vslcA len esz (.pointer (some ⟨b, off, none⟩)) (.int kd l) k = ((0 ≤ l ∧ l ≤ len) ∧ k (.slice (some ⟨b, if (len : Int) = l then off else off + l.toNat * esz, none⟩) (len - l.toNat) (len - l.toNat))) := nd rfl
theorem zq25 (x : Operand) : stepV P (.f32from x) ρ h kv = vf32from (Env.ev ρ x) (kh kv h) := nd rfl
theorem zq26 (n : Int) : vf32from (.int .u32 n) k = k (.float .f32 n.toNat) := nd rfl
theorem zq27 (x : Operand) : stepV P (.snil x) ρ h kv = vsnil (Env.ev ρ x) (kh kv h) := nd rfl
theorem zq28 (x y : Operand) : stepV P (.fmax x y) ρ h kv = vfmax (Env.ev ρ x) (Env.ev ρ y) (kh kv h) := nd rfl
theorem zq29 (way : Ieee.Toward) (x : Operand) : stepV P (.integ way x) ρ h kv = vinteg way (Env.ev ρ x) (kh kv h) := nd rfl
theorem zq2a (e esz : Nat) (z : Array Value) (n c : Operand) : stepV P (.mks e esz z n c) ρ h kv = vmks e esz z (Env.ev ρ n) (Env.ev ρ c) h kv := nd rfl
theorem zq2b (ne : Bool) (p q p' q' : IntKind) (a b a' b' : Int) : vaeq ne (.agg #[.int p a, .int q b]) (.agg #[.int p' a', .int q' b']) k = ((p = p' ∧ q = q') ∧ k (.bool (if ne then !(a == a' && b == b') else (a == a' && b == b')))) := nd rfl
theorem zq2c (p : Option Addr) (n c : Nat) : vsnil (.slice p n c) k = k (.bool p.isNone) := nd rfl
theorem zq2d (kd kd' : FloatKind) (a b : Nat) : vfmax (.float kd a) (.float kd' b) k = (kd = kd' ∧ ∀ r, cn kd r = fmaxF kd (cn kd a) (cn kd b) → k (.float kd r)) := nd rfl
theorem zq2e (way : Ieee.Toward) (b : Nat) : vinteg way (.float .f64 b) k = ∀ r, cn .f64 r = integF way (cn .f64 b) → k (.float .f64 r) := nd rfl
theorem zq2f (T : Nat) (x : Operand) : stepV P (.box T x) ρ h kv = ∀ b, Fresh b h → kv (.pointer (some ⟨b, 0, none⟩)) (⟨b, (Env.ev ρ x).cells, T, true⟩ :: h) := nd rfl
theorem zq2g (T : Nat) (z : Value) : stepV P (.alloc T z) ρ h kv = ∀ b, Fresh b h → kv (.pointer (some ⟨b, 0, none⟩)) (⟨b, z.cells, T, true⟩ :: h) := nd rfl
theorem zq2h (n : Nat) (x y : Operand) : stepV P (.store n x y) ρ h kv = vstore n (Env.ev ρ x) (Env.ev ρ y) h kv := nd rfl
theorem zq2i (f : Nat) (args : List Operand) : stepV P (.call f args) ρ h kv = callG P f (args.map (Env.ev ρ)).toArray h kv := nd rfl
theorem zq2j (x : Operand) (args : List Operand) : stepV P (.callv x args) ρ h kv = vcallv P (Env.ev ρ x) (args.map (Env.ev ρ)).toArray h kv := nd rfl
theorem zq2k (e esz : Nat) (s x : Operand) : stepV P (.app e esz s x) ρ h kv = vapp e esz (Env.ev ρ s) (Env.ev ρ x) h kv := nd rfl
theorem zq2l (e esz len : Nat) (z : Array Value) (parts : List (Nat × Operand)) : stepV P (.bslice e esz len z parts) ρ h kv = vbslice e esz len z (parts.map fun p => (p.1, Env.ev ρ p.2)) h kv := nd rfl
theorem zq2m (hc : Hp) (dd : Option Nat) (gg : Option (Nat × Bool)) (x : Operand) : stepX P hc ⟨.mov x, dd, gg⟩ K ρ h = stepQ P noRf (.mov x) ρ hc (kx K ρ dd h) := nd rfl
theorem zq2n (hc : Hp) (dd : Option Nat) (gg : Option (Nat × Bool)) (c a b : Operand) : stepX P hc ⟨.pick c a b, dd, gg⟩ K ρ h = stepQ P noRf (.pick c a b) ρ hc (kx K ρ dd h) := nd rfl
theorem zq2o (hc : Hp) (dd : Option Nat) (gg : Option (Nat × Bool)) (n : Option Nat) (x : Operand) : stepX P hc ⟨.load n x, dd, gg⟩ K ρ h = stepQ P noRf (.load n x) ρ hc (kx K ρ dd h) := nd rfl
theorem zq2p (hc : Hp) (dd : Option Nat) (gg : Option (Nat × Bool)) (x : Operand) (d : Nat) : stepX P hc ⟨.addr x d, dd, gg⟩ K ρ h = stepQ P noRf (.addr x d) ρ hc (kx K ρ dd h) := nd rfl
theorem zq2q (hc : Hp) (dd : Option Nat) (gg : Option (Nat × Bool)) (len esz : Nat) (x i : Operand) : stepX P hc ⟨.idxA len esz x i, dd, gg⟩ K ρ h = stepQ P noRf (.idxA len esz x i) ρ hc (kx K ρ dd h) := nd rfl
theorem zq2r (hc : Hp) (dd : Option Nat) (gg : Option (Nat × Bool)) (esz : Nat) (x i : Operand) : stepX P hc ⟨.idxS esz x i, dd, gg⟩ K ρ h = stepQ P noRf (.idxS esz x i) ρ hc (kx K ρ dd h) := nd rfl
theorem zq2s (hc : Hp) (dd : Option Nat) (gg : Option (Nat × Bool)) (len esz : Nat) (n : Option Nat) (x i : Operand) : stepX P hc ⟨.ixA len esz n x i, dd, gg⟩ K ρ h = stepQ P noRf (.ixA len esz n x i) ρ hc (kx K ρ dd h) := nd rfl
theorem zq2t (hc : Hp) (dd : Option Nat) (gg : Option (Nat × Bool)) (x i : Operand) : stepX P hc ⟨.ixStr x i, dd, gg⟩ K ρ h = stepQ P noRf (.ixStr x i) ρ hc (kx K ρ dd h) := nd rfl
theorem zq2u (hc : Hp) (dd : Option Nat) (gg : Option (Nat × Bool)) (n : Option Nat) (off : Nat) (x : Operand) : stepX P hc ⟨.fld n off x, dd, gg⟩ K ρ h = stepQ P noRf (.fld n off x) ρ hc (kx K ρ dd h) := nd rfl
theorem zq2v (hc : Hp) (dd : Option Nat) (gg : Option (Nat × Bool)) (op : BinOp) (x y : Operand) : stepX P hc ⟨.bin op x y, dd, gg⟩ K ρ h = stepQ P noRf (.bin op x y) ρ hc (kx K ρ dd h) := nd rfl
theorem zq2w (hc : Hp) (dd : Option Nat) (gg : Option (Nat × Bool)) (ne : Bool) (x y : Operand) : stepX P hc ⟨.beq ne x y, dd, gg⟩ K ρ h = stepQ P noRf (.beq ne x y) ρ hc (kx K ρ dd h) := nd rfl
theorem zq2x (hc : Hp) (dd : Option Nat) (gg : Option (Nat × Bool)) (op : UnOp) (x : Operand) : stepX P hc ⟨.un op x, dd, gg⟩ K ρ h = stepQ P noRf (.un op x) ρ hc (kx K ρ dd h) := nd rfl
theorem zq2y (hc : Hp) (dd : Option Nat) (gg : Option (Nat × Bool)) (x : Operand) (i : Nat) : stepX P hc ⟨.ext x i, dd, gg⟩ K ρ h = stepQ P noRf (.ext x i) ρ hc (kx K ρ dd h) := nd rfl
theorem zq2z (hc : Hp) (dd : Option Nat) (gg : Option (Nat × Bool)) (x : Operand) : stepX P hc ⟨.nilc x, dd, gg⟩ K ρ h = stepQ P noRf (.nilc x) ρ hc (kx K ρ dd h) := nd rfl
theorem zq30 (hc : Hp) (dd : Option Nat) (gg : Option (Nat × Bool)) (x : Operand) : stepX P hc ⟨.lenS x, dd, gg⟩ K ρ h = stepQ P noRf (.lenS x) ρ hc (kx K ρ dd h) := nd rfl
theorem zq31 (hc : Hp) (dd : Option Nat) (gg : Option (Nat × Bool)) (x : Operand) : stepX P hc ⟨.lenL x, dd, gg⟩ K ρ h = stepQ P noRf (.lenL x) ρ hc (kx K ρ dd h) := nd rfl
theorem zq32 (hc : Hp) (dd : Option Nat) (gg : Option (Nat × Bool)) (x : Operand) : stepX P hc ⟨.f32bits x, dd, gg⟩ K ρ h = stepQ P noRf (.f32bits x) ρ hc (kx K ρ dd h) := nd rfl
theorem zq33 (hc : Hp) (dd : Option Nat) (gg : Option (Nat × Bool)) (x : Operand) : stepX P hc ⟨.f64bits x, dd, gg⟩ K ρ h = stepQ P noRf (.f64bits x) ρ hc (kx K ρ dd h) := nd rfl
theorem zq34 (hc : Hp) (dd : Option Nat) (gg : Option (Nat × Bool)) (x : Operand) : stepX P hc ⟨.f64from x, dd, gg⟩ K ρ h = stepQ P noRf (.f64from x) ρ hc (kx K ρ dd h) := nd rfl
theorem zq35 (hc : Hp) (dd : Option Nat) (gg : Option (Nat × Bool)) (pl : List (Nat × Nat)) (z : Array Value) (parts : List (Nat × Operand)) : stepX P hc ⟨.build pl z parts, dd, gg⟩ K ρ h = stepQ P noRf (.build pl z parts) ρ hc (kx K ρ dd h) := nd rfl
theorem zq36 (hc : Hp) (dd : Option Nat) (gg : Option (Nat × Bool)) (esz : Nat) (z : Array Value) (parts : List (Nat × Operand)) : stepX P hc ⟨.buildA esz z parts, dd, gg⟩ K ρ h = stepQ P noRf (.buildA esz z parts) ρ hc (kx K ρ dd h) := nd rfl
theorem zq37 (hc : Hp) (dd : Option Nat) (gg : Option (Nat × Bool)) (f : Nat) (a b : List Operand) : stepX P hc ⟨.mkfn f a b, dd, gg⟩ K ρ h = stepQ P noRf (.mkfn f a b) ρ hc (kx K ρ dd h) := nd rfl
theorem zq38 (hc : Hp) (dd : Option Nat) (gg : Option (Nat × Bool)) (esz : Nat) (x : Operand) (lo hi : Option Operand) : stepX P hc ⟨.slcL esz x lo hi, dd, gg⟩ K ρ h = stepQ P noRf (.slcL esz x lo hi) ρ hc (kx K ρ dd h) := nd rfl
theorem zq39 (hc : Hp) (dd : Option Nat) (gg : Option (Nat × Bool)) (ne : Bool) (x y : Operand) : stepX P hc ⟨.aeq ne x y, dd, gg⟩ K ρ h = stepQ P noRf (.aeq ne x y) ρ hc (kx K ρ dd h) := nd rfl
theorem zq3a (hc : Hp) (dd : Option Nat) (gg : Option (Nat × Bool)) (T : Nat) (x : Operand) : stepX P hc ⟨.box T x, dd, gg⟩ K ρ h = stepV P (.box T x) ρ h (ks hc K ρ dd) := nd rfl
theorem zq3b (hc : Hp) (dd : Option Nat) (gg : Option (Nat × Bool)) (T : Nat) (z : Value) : stepX P hc ⟨.alloc T z, dd, gg⟩ K ρ h = stepV P (.alloc T z) ρ h (ks hc K ρ dd) := nd rfl
theorem zq3c (hc : Hp) (dd : Option Nat) (gg : Option (Nat × Bool)) (n : Nat) (x y : Operand) : stepX P hc ⟨.store n x y, dd, gg⟩ K ρ h = stepV P (.store n x y) ρ h (ks hc K ρ dd) := nd rfl
theorem zq3d (hc : Hp) (dd : Option Nat) (gg : Option (Nat × Bool)) (f : Nat) (args : List Operand) : stepX P hc ⟨.call f args, dd, gg⟩ K ρ h = stepV P (.call f args) ρ h (ks hc K ρ dd) := nd rfl
theorem zq3e (hc : Hp) (dd : Option Nat) (gg : Option (Nat × Bool)) (x : Operand) (args : List Operand) : stepX P hc ⟨.callv x args, dd, gg⟩ K ρ h = stepV P (.callv x args) ρ h (ks hc K ρ dd) := nd rfl
theorem zq3f (hc : Hp) (dd : Option Nat) (gg : Option (Nat × Bool)) (e esz : Nat) (s x : Operand) : stepX P hc ⟨.app e esz s x, dd, gg⟩ K ρ h = stepV P (.app e esz s x) ρ h (ks hc K ρ dd) := nd rfl
theorem zq3g (hc : Hp) (dd : Option Nat) (gg : Option (Nat × Bool)) (e esz len : Nat) (z : Array Value) (parts : List (Nat × Operand)) : stepX P hc ⟨.bslice e esz len z parts, dd, gg⟩ K ρ h = stepV P (.bslice e esz len z parts) ρ h (ks hc K ρ dd) := nd rfl
theorem zq3h (hc : Hp) (dd : Option Nat) (gg : Option (Nat × Bool)) (op : BinOp) (x y : Operand) : stepX P hc ⟨.fbin op x y, dd, gg⟩ K ρ h = stepV P (.fbin op x y) ρ h (ks hc K ρ dd) := nd rfl
theorem zq3i (hc : Hp) (dd : Option Nat) (gg : Option (Nat × Bool)) (kd : IntKind) (x : Operand) : stepX P hc ⟨.convI kd x, dd, gg⟩ K ρ h = stepV P (.convI kd x) ρ h (ks hc K ρ dd) := nd rfl
theorem zq3j (hc : Hp) (dd : Option Nat) (gg : Option (Nat × Bool)) (kd : FloatKind) (x : Operand) : stepX P hc ⟨.convF kd x, dd, gg⟩ K ρ h = stepV P (.convF kd x) ρ h (ks hc K ρ dd) := nd rfl
theorem zq3k (a b : Value) : vpick (.bool true) a b k = k a := nd rfl
theorem zq3l (a b : Value) : vpick (.bool false) a b k = k b := nd rfl
theorem zq3m (n : Option Nat) (b off : Nat) : vload n (.pointer (some ⟨b, off, none⟩)) h k = vloadAt n off k (look h b) := nd rfl
theorem zq3n (n : Option Nat) (off : Nat) (x : Blk) : vloadAt n off k (some x) = getN n x.cells off k := nd rfl
theorem zq3o (cs : Array Value) (off : Nat) : getN none cs off k = getV cs[off]? k := nd rfl
theorem zq3p (v : Value) : getV (some v) k = k v := nd rfl
theorem zq3q (x : Blk) (b : Nat) : look (x :: h) b = if b = x.base then some x else look h b := nd rfl
theorem zq3r (b : Nat) : look [] b = none := nd rfl
theorem zq3s (x : Blk) (b : Nat) (cs : Array Value) : upd (x :: h) b cs = if b = x.base then { x with cells := cs } :: h else x :: upd h b cs := nd rfl
theorem zq3t (x : Blk) (b : Nat) : drop (x :: h) b = if b = x.base then h else x :: drop h b := nd rfl
theorem zq3u (b off d : Nat) : vaddr (.pointer (some ⟨b, off, none⟩)) d k = k (.pointer (some ⟨b, off + d, none⟩)) := nd rfl
theorem zq3v (len esz b off : Nat) (kd : IntKind) (n : Int) : vidxA len esz (.pointer (some ⟨b, off, none⟩)) (.int kd n) k = ((0 ≤ n ∧ n < len) ∧ k (.pointer (some ⟨b, off + n.toNat * esz, none⟩))) := nd rfl
theorem zq3w (esz b off len cap : Nat) (kd : IntKind) (n : Int) : vidxS esz (.slice (some ⟨b, off, none⟩) len cap) (.int kd n) k = ((0 ≤ n ∧ n < len) ∧ k (.pointer (some ⟨b, off + n.toNat * esz, none⟩))) := nd rfl
theorem zq3x (len esz : Nat) (m : Option Nat) (cs : Array Value) (kd : IntKind) (n : Int) : vixA len esz m (.agg cs) (.int kd n) k = ((0 ≤ n ∧ n < len) ∧ getN m cs (n.toNat * esz) k) := nd rfl
theorem zq3y (s : ByteArray) (kd : IntKind) (n : Int) : vixStr (.string s) (.int kd n) k = (0 ≤ n ∧ getB s[n.toNat]? k) := nd rfl
theorem zq3z (m : Option Nat) (off : Nat) (cs : Array Value) : vfld m off (.agg cs) k = getN m cs off k := nd rfl
theorem zq40 (kd kd' : IntKind) (a b : Int) : vbin .add (.int kd a) (.int kd' b) k = (kd = kd' ∧ k (.int kd (kd.wrap (a + b)))) := nd rfl
theorem zq41 (kd kd' : IntKind) (a b : Int) : vbin .sub (.int kd a) (.int kd' b) k = (kd = kd' ∧ k (.int kd (kd.wrap (a - b)))) := nd rfl
theorem zq42 (kd kd' : IntKind) (a b : Int) : vbin .mul (.int kd a) (.int kd' b) k = (kd = kd' ∧ k (.int kd (kd.wrap (a * b)))) := nd rfl
theorem zq43 (kd kd' : IntKind) (a b : Int) : vbin .quo (.int kd a) (.int kd' b) k = (kd = kd' ∧ b ≠ 0 ∧ k (.int kd (kd.wrap (a.tdiv b)))) := nd rfl
theorem zq44 (kd kd' : IntKind) (a b : Int) : vbin .rem (.int kd a) (.int kd' b) k = (kd = kd' ∧ b ≠ 0 ∧ k (.int kd (a.tmod b))) := nd rfl
theorem zq45 (kd kd' : IntKind) (a b : Int) : vbin .and (.int kd a) (.int kd' b) k = (kd = kd' ∧ k (.int kd (ibits .and kd a b))) := nd rfl
theorem zq46 (kd kd' : IntKind) (a b : Int) : vbin .or (.int kd a) (.int kd' b) k = (kd = kd' ∧ k (.int kd (ibits .or kd a b))) := nd rfl
theorem zq47 (kd kd' : IntKind) (a b : Int) : vbin .xor (.int kd a) (.int kd' b) k = (kd = kd' ∧ k (.int kd (ibits .xor kd a b))) := nd rfl
theorem zq48 (kd kd' : IntKind) (a b : Int) : vbin .andNot (.int kd a) (.int kd' b) k = (kd = kd' ∧ k (.int kd (ibits .andNot kd a b))) := nd rfl
theorem zq49 (kd kd' : IntKind) (a b : Int) : vbin .eql (.int kd a) (.int kd' b) k = (kd = kd' ∧ k (.bool (a == b))) := nd rfl
theorem zq4a (kd kd' : IntKind) (a b : Int) : vbin .neq (.int kd a) (.int kd' b) k = (kd = kd' ∧ k (.bool (a != b))) := nd rfl
theorem zq4b (kd kd' : IntKind) (a b : Int) : vbin .lss (.int kd a) (.int kd' b) k = (kd = kd' ∧ k (.bool (decide (a < b)))) := nd rfl
theorem zq4c (kd kd' : IntKind) (a b : Int) : vbin .leq (.int kd a) (.int kd' b) k = (kd = kd' ∧ k (.bool (decide (a ≤ b)))) := nd rfl
theorem zq4d (kd kd' : IntKind) (a b : Int) : vbin .gtr (.int kd a) (.int kd' b) k = (kd = kd' ∧ k (.bool (decide (b < a)))) := nd rfl
theorem zq4e (kd kd' : IntKind) (a b : Int) : vbin .geq (.int kd a) (.int kd' b) k = (kd = kd' ∧ k (.bool (decide (b ≤ a)))) := nd rfl
theorem zq4f (kd kd' : IntKind) (a b : Int) : vbin .shl (.int kd a) (.int kd' b) k = (0 ≤ b ∧ k (.int kd (kd.wrap (a * 2 ^ (min b.toNat kd.bits))))) := nd rfl
theorem zq4g (kd kd' : IntKind) (a b : Int) : vbin .shr (.int kd a) (.int kd' b) k = (0 ≤ b ∧ k (.int kd (a.fdiv (2 ^ (min b.toNat kd.bits))))) := nd rfl
theorem zq4h (kd kd' : FloatKind) (a b : Nat) : vfbin .add (.float kd a) (.float kd' b) k = (kd = kd' ∧ ∀ r, cn kd r = fop .add kd (cn kd a) (cn kd b) → k (.float kd r)) := nd rfl
theorem zq4i (kd kd' : FloatKind) (a b : Nat) : vfbin .sub (.float kd a) (.float kd' b) k = (kd = kd' ∧ ∀ r, cn kd r = fop .sub kd (cn kd a) (cn kd b) → k (.float kd r)) := nd rfl
theorem zq4j (kd kd' : FloatKind) (a b : Nat) : vfbin .mul (.float kd a) (.float kd' b) k = (kd = kd' ∧ ∀ r, cn kd r = fop .mul kd (cn kd a) (cn kd b) → k (.float kd r)) := nd rfl
theorem zq4k (kd kd' : FloatKind) (a b : Nat) : vfbin .quo (.float kd a) (.float kd' b) k = (kd = kd' ∧ ∀ r, cn kd r = fop .quo kd (cn kd a) (cn kd b) → k (.float kd r)) := nd rfl
theorem zq4l (kd kd' : FloatKind) (a b : Nat) : vfbin .eql (.float kd a) (.float kd' b) k = (kd = kd' ∧ k (.bool (fcmp .eql kd (cn kd a) (cn kd b)))) := nd rfl
theorem zq4m (kd kd' : FloatKind) (a b : Nat) : vfbin .neq (.float kd a) (.float kd' b) k = (kd = kd' ∧ k (.bool (fcmp .neq kd (cn kd a) (cn kd b)))) := nd rfl
theorem zq4n (kd kd' : FloatKind) (a b : Nat) : vfbin .lss (.float kd a) (.float kd' b) k = (kd = kd' ∧ k (.bool (fcmp .lss kd (cn kd a) (cn kd b)))) := nd rfl
theorem zq4o (kd kd' : FloatKind) (a b : Nat) : vfbin .leq (.float kd a) (.float kd' b) k = (kd = kd' ∧ k (.bool (fcmp .leq kd (cn kd a) (cn kd b)))) := nd rfl
theorem zq4p (kd kd' : FloatKind) (a b : Nat) : vfbin .gtr (.float kd a) (.float kd' b) k = (kd = kd' ∧ k (.bool (fcmp .gtr kd (cn kd a) (cn kd b)))) := nd rfl
theorem zq4q (kd kd' : FloatKind) (a b : Nat) : vfbin .geq (.float kd a) (.float kd' b) k = (kd = kd' ∧ k (.bool (fcmp .geq kd (cn kd a) (cn kd b)))) := nd rfl
theorem zq4r (a b : ByteArray) : vbin .eql (.string a) (.string b) k = k (.bool (a.toList == b.toList)) := nd rfl
theorem zq4s (a b : ByteArray) : vbin .neq (.string a) (.string b) k = k (.bool (!(a.toList == b.toList))) := nd rfl
theorem zq4t (a b : ByteArray) : vbin .add (.string a) (.string b) k = (a.size + b.size ≤ 9223372036854775807 ∧ k (.string (a ++ b))) := nd rfl
theorem zq4u (a b : Bool) : vbeq true (.bool a) (.bool b) k = k (.bool (!(a == b))) := nd rfl
theorem zq4v (a b : Bool) : vbeq false (.bool a) (.bool b) k = k (.bool (a == b)) := nd rfl
theorem zq4w (b : Bool) : vun .not (.bool b) k = k (.bool !b) := nd rfl
theorem zq4x (kd : FloatKind) (b : Nat) : vun .neg (.float kd b) k = k (.float kd (Op.negFloat kd b)) := nd rfl
theorem zq4y (kd : IntKind) (n : Int) : vun .neg (.int kd n) k = k (.int kd (kd.wrap (0 - n))) := nd rfl
theorem zq4z (kd kd' : IntKind) (n : Int) : vconvI kd (.int kd' n) k = k (.int kd (kd.wrap n)) := nd rfl
theorem zq50 (kd : IntKind) (s : FloatKind) (b : Nat) : vconvI kd (.float s b) k = (match floatToIntVal s b kd with | some n => k (.int kd n) | none => False) := nd rfl
theorem zq51 (kd : FloatKind) (kd' : IntKind) (n : Int) : vconvF kd (.int kd' n) k = k (.float kd (floatOfInt kd n)) := nd rfl
theorem zq52 (b : Nat) : vconvF .f64 (.float .f32 b) k = ∀ r, cn .f64 r = wideF (cn .f32 b) → k (.float .f64 r) := by
  apply propext
  exact ⟨fun h => h.2, fun h => ⟨widen_ok b, h⟩⟩
theorem zq53 (b : Nat) : vconvF .f32 (.float .f64 b) k = ((nan .f64 b = true ∨ floatToFloatBits .f64 b .f32 ≠ none) ∧ ∀ r, cn .f32 r = cn .f32 (fconv .f64 .f32 (cn .f64 b)) → k (.float .f32 r)) := nd rfl
theorem zq54 (vs : Array Value) (i : Nat) : vext (.tuple vs) i k = (match vs[i]? with | some v => k v | none => False) := nd rfl
theorem zq55 (a : Addr) : vnilc (.pointer (some a)) k = k (.pointer (some a)) := nd rfl
theorem zq56 (f : Nat) (a b : Array Value) : vnilc (.func (.func f) a b) k = k (.func (.func f) a b) := nd rfl
theorem zq57 (s : ByteArray) : vlenS (.string s) k = k (.int .i64 s.size) := nd rfl
theorem zq58 (p : Option Addr) (n c : Nat) : vlenL (.slice p n c) k = k (.int .i64 n) := nd rfl
theorem zq59 (b : Nat) : vf32bits (.float .f32 b) k = k (.int .u32 b) := nd rfl
theorem zq5a (b : Nat) : vf64bits (.float .f64 b) k = k (.int .u64 b) := nd rfl
theorem zq5b (n : Int) : vf64from (.int .u64 n) k = k (.float .f64 n.toNat) := nd rfl
theorem zq5c (pl : List (Nat × Nat)) (z : Array Value) : vbuild pl z [] k = k (.agg z) := nd rfl
theorem zq5d (esz : Nat) (z : Array Value) : vbuildA esz z [] k = k (.agg z) := nd rfl
theorem zq5e (f : Nat) (a b args : Array Value) : vcallv P (.func (.func f) a b) args h kv = (callable P f = true ∧ callG P f (a ++ args ++ b) h kv) := nd rfl
theorem zq5f (esz b off len cap : Nat) (kd : IntKind) (l : Int) : vslcL esz (.slice (some ⟨b, off, none⟩) len cap) (some (.int kd l)) none k =
    ((0 ≤ l ∧ l ≤ len ∧ len ≤ cap) ∧ k (.slice (some ⟨b, if (cap : Int) = l then off else off + l.toNat * esz, none⟩) (len - l.toNat) (cap - l.toNat))) := nd rfl
theorem zq5g (n b off : Nat) (v : Value) : vstore n (.pointer (some ⟨b, off, none⟩)) v h kv = vstoreAt n b off v h kv (look h b) := nd rfl
theorem zq5h (e esz n cap m c2 b b2 off2 : Nat) : vapp e esz (.slice (some ⟨b, 0, none⟩) n cap) (.slice (some ⟨b2, off2, none⟩) m c2) h kv = vappAt e esz n cap off2 m b h kv (look h b) (look h b2) := nd rfl
theorem zq5i (cs : Array Value) (off : Nat) (vs : Array Value) : stored cs off (.agg vs) = splice cs off vs := nd rfl
theorem zq5j (cs : Array Value) (off : Nat) (kd : FloatKind) (x : Nat) : stored cs off (.float kd x) = cs.setIfInBounds off (.float kd x) := nd rfl
theorem zq5k (cs : Array Value) (off : Nat) (kd : IntKind) (x : Int) : stored cs off (.int kd x) = cs.setIfInBounds off (.int kd x) := nd rfl
theorem zq5l (cs : Array Value) (off : Nat) (x : Bool) : stored cs off (.bool x) = cs.setIfInBounds off (.bool x) := nd rfl
theorem zq5m (cs : Array Value) : Value.cells (.agg cs) = cs := nd rfl
theorem zq5n (kd : FloatKind) (x : Nat) : Value.cells (.float kd x) = #[.float kd x] := nd rfl
theorem zq5o (kd : IntKind) (x : Int) : Value.cells (.int kd x) = #[.int kd x] := nd rfl
theorem zq5p (x : Bool) : Value.cells (.bool x) = #[.bool x] := nd rfl
theorem zq5q (r : RV) (Q : Value → Hp → Prop) : vret [r] Q ρ h = resv r ρ h (kh Q h) := nd rfl
theorem zq5r (r s : RV) (Q : Value → Hp → Prop) : vret [r, s] Q ρ h = resv r ρ h (ret2 Q s ρ h) := nd rfl
theorem zq5s (r s t : RV) (Q : Value → Hp → Prop) : vret [r, s, t] Q ρ h = resv r ρ h (ret3 Q s t ρ h) := nd rfl
theorem zq5t (Q : Value → Hp → Prop) : vret [] Q ρ h = Q (.tuple #[]) h := nd rfl
theorem zq5u (t : Nat) : resv (.tmp t) ρ h k = k (Env.get ρ t) := nd rfl
theorem zq5v (t : Nat) (n : Option Nat) : resv (.cell t n) ρ h k = vload n (Env.get ρ t) h k := nd rfl
theorem zq5w (Q : Value → Hp → Prop) (r : RV) (u : Value) : ret2 Q r ρ h u = resv r ρ h (ret2b Q h u) := nd rfl
theorem zq5x (Q : Value → Hp → Prop) (u v : Value) : ret2b Q h u v = Q (.tuple #[u, v]) h := nd rfl
theorem zq5y (Q : Value → Hp → Prop) (r s : RV) (u : Value) : ret3 Q r s ρ h u = resv r ρ h (ret3b Q s ρ h u) := nd rfl
theorem zq5z (Q : Value → Hp → Prop) (r : RV) (u v : Value) : ret3b Q r ρ h u v = resv r ρ h (ret3c Q h u v) := nd rfl
theorem zq60 (Q : Value → Hp → Prop) (u v x : Value) : ret3c Q h u v x = Q (.tuple #[u, v, x]) h := nd rfl
end

section
variable {P : Program} {Rf : Nat → Array Value → Value → Prop} {K : Env → Prop} {ρ : Env} {h : Hp} {k : Value → Prop}
theorem zq61 : vdops P Rf h [] K ρ = K ρ := nd rfl
theorem zq62 (op : VO) (d : Option Nat) (l : List VI) : vdops P Rf h (⟨op, d, none⟩ :: l) K ρ = stepQ P Rf op ρ h (kpq (vdops P Rf h l K) ρ d) := nd rfl
theorem zq63 (op : VO) (d : Option Nat) (s : Nat) (w : Bool) (l : List VI) :
    vdops P Rf h (⟨op, d, some (s, w)⟩ :: l) K ρ = gcond (Env.get ρ s) s w (lift1 (stepB P Rf ⟨op, d, some (s, w)⟩ h (vdops P Rf h l K))) (lift1 (skipB ⟨op, d, some (s, w)⟩ (vdops P Rf h l K))) ρ () := nd rfl
theorem zq64 (A : Env → Prop) (u : Unit) : lift1 A ρ u = A ρ := nd rfl
theorem zq65 (op : VO) (d : Option Nat) (g : Option (Nat × Bool)) : stepB P Rf ⟨op, d, g⟩ h K ρ = stepQ P Rf op ρ h (kpq K ρ d) := nd rfl
theorem zq66 (op : VO) (d : Option Nat) (g : Option (Nat × Bool)) : skipB ⟨op, d, g⟩ K ρ = K (Env.put ρ d undef) := nd rfl
theorem zq67 (d : Option Nat) (v : Value) : kpq K ρ d v = K (Env.put ρ d v) := nd rfl
theorem zq68 (x : Operand) : stepQ P Rf (.mov x) ρ h k = k (Env.ev ρ x) := nd rfl
theorem zq69 (c a b : Operand) : stepQ P Rf (.pick c a b) ρ h k = vpick (Env.ev ρ c) (Env.ev ρ a) (Env.ev ρ b) k := nd rfl
theorem zq6a (n : Option Nat) (x : Operand) : stepQ P Rf (.load n x) ρ h k = vload n (Env.ev ρ x) h k := nd rfl
theorem zq6b (x : Operand) (d : Nat) : stepQ P Rf (.addr x d) ρ h k = vaddr (Env.ev ρ x) d k := nd rfl
theorem zq6c (len esz : Nat) (x i : Operand) : stepQ P Rf (.idxA len esz x i) ρ h k = vidxA len esz (Env.ev ρ x) (Env.ev ρ i) k := nd rfl
theorem zq6d (esz : Nat) (x i : Operand) : stepQ P Rf (.idxS esz x i) ρ h k = vidxS esz (Env.ev ρ x) (Env.ev ρ i) k := nd rfl
theorem zq6e (len esz : Nat) (n : Option Nat) (x i : Operand) : stepQ P Rf (.ixA len esz n x i) ρ h k = vixA len esz n (Env.ev ρ x) (Env.ev ρ i) k := nd rfl
theorem zq6f (n : Option Nat) (off : Nat) (x : Operand) : stepQ P Rf (.fld n off x) ρ h k = vfld n off (Env.ev ρ x) k := nd rfl
theorem zq6g (op : BinOp) (x y : Operand) : stepQ P Rf (.bin op x y) ρ h k = vbin op (Env.ev ρ x) (Env.ev ρ y) k := nd rfl
theorem zq6h (op : BinOp) (x y : Operand) : stepQ P Rf (.fbin op x y) ρ h k = vfbin op (Env.ev ρ x) (Env.ev ρ y) k := nd rfl
theorem zq6i (ne : Bool) (x y : Operand) : stepQ P Rf (.beq ne x y) ρ h k = vbeq ne (Env.ev ρ x) (Env.ev ρ y) k := nd rfl
theorem zq6j (op : UnOp) (x : Operand) : stepQ P Rf (.un op x) ρ h k = vun op (Env.ev ρ x) k := nd rfl
theorem zq6k (kd : IntKind) (x : Operand) : stepQ P Rf (.convI kd x) ρ h k = vconvI kd (Env.ev ρ x) k := nd rfl
theorem zq6l (kd : FloatKind) (x : Operand) : stepQ P Rf (.convF kd x) ρ h k = vconvF kd (Env.ev ρ x) k := nd rfl
theorem zq6m (x : Operand) (i : Nat) : stepQ P Rf (.ext x i) ρ h k = vext (Env.ev ρ x) i k := nd rfl
theorem zq6n (x : Operand) : stepQ P Rf (.nilc x) ρ h k = vnilc (Env.ev ρ x) k := nd rfl
theorem zq6o (x : Operand) : stepQ P Rf (.lenS x) ρ h k = vlenS (Env.ev ρ x) k := nd rfl
theorem zq6p (x : Operand) : stepQ P Rf (.lenL x) ρ h k = vlenL (Env.ev ρ x) k := nd rfl
theorem zq6q (f : Nat) (args : List Operand) : stepQ P Rf (.call f args) ρ h k = callQ P Rf f (args.map (Env.ev ρ)).toArray h k := nd rfl
theorem zq6r (pl : List (Nat × Nat)) (z : Array Value) (parts : List (Nat × Operand)) : stepQ P Rf (.build pl z parts) ρ h k = vbuild pl z (parts.map fun p => (p.1, Env.ev ρ p.2)) k := nd rfl
theorem zq6s (esz : Nat) (z : Array Value) (parts : List (Nat × Operand)) : stepQ P Rf (.buildA esz z parts) ρ h k = vbuildA esz z (parts.map fun p => (p.1, Env.ev ρ p.2)) k := nd rfl
theorem zq6t (f : Nat) (a b : List Operand) : stepQ P Rf (.mkfn f a b) ρ h k = k (.func (.func f) (a.map (Env.ev ρ)).toArray (b.map (Env.ev ρ)).toArray) := nd rfl
theorem zq6u (esz : Nat) (x : Operand) (lo hi : Option Operand) : stepQ P Rf (.slcL esz x lo hi) ρ h k = vslcL esz (Env.ev ρ x) (lo.map (Env.ev ρ)) (hi.map (Env.ev ρ)) k := nd rfl
theorem zq6v (ne : Bool) (x y : Operand) : stepQ P Rf (.aeq ne x y) ρ h k = vaeq ne (Env.ev ρ x) (Env.ev ρ y) k := nd rfl
theorem zq6w (x i : Operand) : stepQ P Rf (.ixStr x i) ρ h k = vixStr (Env.ev ρ x) (Env.ev ρ i) k := nd rfl
theorem zq6x (x : Operand) : stepQ P Rf (.f64bits x) ρ h k = vf64bits (Env.ev ρ x) k := nd rfl
theorem zq6y (x : Operand) : stepQ P Rf (.f64from x) ρ h k = vf64from (Env.ev ρ x) k := nd rfl
theorem zq6z (x : Operand) : stepQ P Rf (.f32bits x) ρ h k = vf32bits (Env.ev ρ x) k := nd rfl
end

section
variable {P : Program} {ρ : Env} {h : Hp} {k : Value → Prop} {kv : Value → Hp → Prop} {f : Nat → Nat} {g : G} {br : Br}
theorem many_of {off m : Nat} {cs vs : Array Value} (hs : off + m ≤ cs.size) (he : cs.extract off (off + m) = vs) : getN (some m) cs off k = k (.agg vs) := by
  apply propext; exact ⟨fun h => he ▸ h.2, fun h => ⟨hs, he ▸ h⟩⟩
theorem zq70 : getN (some 64) (fcells f) 0 k = k (.agg (fcells f)) := many_of (by rw [fcells_size]; decide) (f_ext_all f)
theorem zq71 : getN (some 195) (gcells g) 0 k = k (.agg (gcells g)) := many_of (by rw [gcells_size]; decide) (g_ext_all g)
theorem zq72 : getN (some 64) (gcells g) 2 k = k (.agg (fcells g.con)) := many_of (by rw [gcells_size]; decide) (g_ext_con g)
theorem zq73 : getN (some 64) (gcells g) 66 k = k (.agg (fcells g.gain)) := many_of (by rw [gcells_size]; decide) (g_ext_gain g)
theorem zq74 : getN (some 64) (gcells g) 130 k = k (.agg (fcells g.heads)) := many_of (by rw [gcells_size]; decide) (g_ext_heads g)
theorem zq75 : getN (some 324) (brcells br) 0 k = k (.agg (brcells br)) := many_of (by rw [brcells_size]; decide) (br_ext_all br)
theorem zq76 : getN (some 195) (brcells br) 0 k = k (.agg (gcells br.g)) := many_of (by rw [brcells_size]; decide) (br_ext_ground br)
theorem zq77 : getN (some 64) (brcells br) 195 k = k (.agg (fcells br.salt)) := many_of (by rw [brcells_size]; decide) (br_ext_salt br)
theorem zq78 : getN (some 64) (brcells br) 259 k = k (.agg (fcells br.spring)) := many_of (by rw [brcells_size]; decide) (br_ext_spring br)
theorem zq79 : (gcells g)[0]? = some (.int .i8 g.wide) := g_wide g
theorem zq7a : (gcells g)[1]? = some (.int .i8 g.high) := g_high g
theorem zq7b : (gcells g)[194]? = some (.int .u64 g.fixed) := g_fixed g
theorem zq7c : (brcells br)[0]? = some (.int .i8 br.g.wide) := by rw [br_ground br 0 (by decide)]; exact g_wide _
theorem zq7d : (brcells br)[1]? = some (.int .i8 br.g.high) := by rw [br_ground br 1 (by decide)]; exact g_high _
theorem zq7e : (brcells br)[194]? = some (.int .u64 br.g.fixed) := by rw [br_ground br 194 (by decide)]; exact g_fixed _
theorem zq7f : (brcells br)[323]? = some (.float .f32 br.room) := br_room br
theorem st_of {m b off b' T : Nat} {cs vs : Array Value} (hs : vs.size = m) (hl : off + m ≤ cs.size) (h1 : vs.all (·.oneCell') = true) : vstoreAt m b off (.agg vs) h kv (some ⟨b', cs, T, true⟩) = kv undef (upd h b (splice cs off vs)) := by
  apply propext; exact ⟨fun x => x.2.2.2.2, fun x => ⟨rfl, hs, hl, h1, x⟩⟩
theorem st1_of {b off b' T : Nat} {cs : Array Value} {v : Value} (hl : off < cs.size) (hs : v.cells.size = 1) (h1 : v.cells.all (·.oneCell') = true) : vstoreAt 1 b off v h kv (some ⟨b', cs, T, true⟩) = kv undef (upd h b (stored cs off v)) := by
  apply propext; exact ⟨fun x => x.2.2.2.2, fun x => ⟨rfl, hs, hl, h1, x⟩⟩
theorem zq7g {b b' T : Nat} {f' : Nat → Nat} : vstoreAt 64 b 0 (.agg (fcells f')) h kv (some ⟨b', fcells f, T, true⟩) = kv undef (upd h b (fcells f')) := by
  rw [st_of (fcells_size f') (by rw [fcells_size]; decide) (f_one f'), splice_all (by rw [fcells_size, fcells_size])]
theorem zq7h {b b' T : Nat} {g' : G} : vstoreAt 195 b 0 (.agg (gcells g')) h kv (some ⟨b', gcells g, T, true⟩) = kv undef (upd h b (gcells g')) := by
  rw [st_of (gcells_size g') (by rw [gcells_size]; decide) (g_one g'), splice_all (by rw [gcells_size, gcells_size])]
theorem zq7i {b b' T : Nat} {br' : Br} : vstoreAt 324 b 0 (.agg (brcells br')) h kv (some ⟨b', brcells br, T, true⟩) = kv undef (upd h b (brcells br')) := by
  rw [st_of (brcells_size br') (by rw [brcells_size]; decide) (br_one br'), splice_all (by rw [brcells_size, brcells_size])]
theorem zq7j {b b' T : Nat} : vstoreAt 64 b 2 (.agg (fcells f)) h kv (some ⟨b', gcells g, T, true⟩) = kv undef (upd h b (gcells { g with con := f })) := by
  rw [st_of (fcells_size f) (by rw [gcells_size]; decide) (f_one f), g_splice_con]
theorem zq7k {b b' T : Nat} : vstoreAt 64 b 66 (.agg (fcells f)) h kv (some ⟨b', gcells g, T, true⟩) = kv undef (upd h b (gcells { g with gain := f })) := by
  rw [st_of (fcells_size f) (by rw [gcells_size]; decide) (f_one f), g_splice_gain]
theorem zq7l {b b' T : Nat} : vstoreAt 64 b 130 (.agg (fcells f)) h kv (some ⟨b', gcells g, T, true⟩) = kv undef (upd h b (gcells { g with heads := f })) := by
  rw [st_of (fcells_size f) (by rw [gcells_size]; decide) (f_one f), g_splice_heads]
theorem zq7m {b b' T : Nat} {n : Int} : vstoreAt 1 b 0 (.int .i8 n) h kv (some ⟨b', gcells g, T, true⟩) = kv undef (upd h b (gcells { g with wide := n })) := by
  rw [st1_of (by rw [gcells_size]; decide) rfl (by simp [Value.cells, Value.oneCell']), zq5k, g_set_wide]
theorem zq7n {b b' T : Nat} {n : Int} : vstoreAt 1 b 1 (.int .i8 n) h kv (some ⟨b', gcells g, T, true⟩) = kv undef (upd h b (gcells { g with high := n })) := by
  rw [st1_of (by rw [gcells_size]; decide) rfl (by simp [Value.cells, Value.oneCell']), zq5k, g_set_high]
theorem zq7o {b b' T : Nat} {n : Int} : vstoreAt 1 b 194 (.int .u64 n) h kv (some ⟨b', gcells g, T, true⟩) = kv undef (upd h b (gcells { g with fixed := n })) := by
  rw [st1_of (by rw [gcells_size]; decide) rfl (by simp [Value.cells, Value.oneCell']), zq5k, g_set_fixed]
theorem zq7p {b b' T : Nat} : vstoreAt 195 b 0 (.agg (gcells g)) h kv (some ⟨b', brcells br, T, true⟩) = kv undef (upd h b (brcells { br with g := g })) := by
  rw [st_of (gcells_size g) (by rw [brcells_size]; decide) (g_one g), br_splice_ground]
theorem zq7q {b b' T : Nat} : vstoreAt 64 b 195 (.agg (fcells f)) h kv (some ⟨b', brcells br, T, true⟩) = kv undef (upd h b (brcells { br with salt := f })) := by
  rw [st_of (fcells_size f) (by rw [brcells_size]; decide) (f_one f), br_splice_salt]
theorem zq7r {b b' T : Nat} : vstoreAt 64 b 259 (.agg (fcells f)) h kv (some ⟨b', brcells br, T, true⟩) = kv undef (upd h b (brcells { br with spring := f })) := by
  rw [st_of (fcells_size f) (by rw [brcells_size]; decide) (f_one f), br_splice_spring]
theorem zq7s {b b' T : Nat} {x : Nat} : vstoreAt 1 b 323 (.float .f32 x) h kv (some ⟨b', brcells br, T, true⟩) = kv undef (upd h b (brcells { br with room := x })) := by
  rw [st1_of (by rw [brcells_size]; decide) rfl (by simp [Value.cells, Value.oneCell']), zq5j, br_set_room]
end

section
variable {P : Program} {ρ : Env} {h : Hp} {k : Value → Prop} {kv : Value → Hp → Prop}
theorem zq7t {x y : Value} : getN (some 2) #[x, y] 0 k = k (.agg #[x, y]) := many_of (by simp) (by simp)
theorem zq7u {x y z : Value} : getN (some 3) #[x, y, z] 0 k = k (.agg #[x, y, z]) := many_of (by simp) (by simp)
theorem zq7v {x y z p q : Value} : getN (some 5) #[x, y, z, p, q] 0 k = k (.agg #[x, y, z, p, q]) := many_of (by simp) (by simp)
theorem zq7w {x y z p q : Value} : getN (some 3) #[x, y, z, p, q] 0 k = k (.agg #[x, y, z]) := many_of (by simp) (by simp)
theorem zq7x {b off b' T r : Nat} {kd : FloatKind} {l : List Value} (hl : off < l.length) : vstoreAt 1 b off (.float kd r) h kv (some ⟨b', l.toArray, T, true⟩) = kv undef (upd h b (l.set off (.float kd r)).toArray) := by
  rw [st1_of (by simpa using hl) rfl (by simp [Value.cells, Value.oneCell']), zq5j, List.setIfInBounds_toArray]
theorem zq7y {b off b' T : Nat} {kd : IntKind} {r : Int} {l : List Value} (hl : off < l.length) : vstoreAt 1 b off (.int kd r) h kv (some ⟨b', l.toArray, T, true⟩) = kv undef (upd h b (l.set off (.int kd r)).toArray) := by
  rw [st1_of (by simpa using hl) rfl (by simp [Value.cells, Value.oneCell']), zq5k, List.setIfInBounds_toArray]
theorem zq7z {b b' T : Nat} {x y : Nat} {u v : Value} : vstoreAt 2 b 0 (.agg #[.float .f32 x, .float .f32 y]) h kv (some ⟨b', #[u, v], T, true⟩) = kv undef (upd h b #[.float .f32 x, .float .f32 y]) := by
  rw [st_of (m := 2) rfl (by simp) (by simp [Value.oneCell']), splice_all (by simp)]
theorem zq80 {b b' T : Nat} {x y : Int} {k1 k2 : IntKind} {u v : Value} : vstoreAt 2 b 0 (.agg #[.int k1 x, .int k2 y]) h kv (some ⟨b', #[u, v], T, true⟩) = kv undef (upd h b #[.int k1 x, .int k2 y]) := by
  rw [st_of (m := 2) rfl (by simp) (by simp [Value.oneCell']), splice_all (by simp)]
theorem zq81 {b b' T : Nat} {x y : Int} {q : Nat} {u v s : Value} : vstoreAt 3 b 0 (.agg #[.int .i8 x, .int .i8 y, .float .f32 q]) h kv (some ⟨b', #[u, v, s], T, true⟩) = kv undef (upd h b #[.int .i8 x, .int .i8 y, .float .f32 q]) := by
  rw [st_of (m := 3) rfl (by simp) (by simp [Value.oneCell']), splice_all (by simp)]
theorem zq82 {b b' T : Nat} {x y : Int} {q : Nat} {u v s c d : Value} : vstoreAt 3 b 0 (.agg #[.int .i8 x, .int .i8 y, .float .f32 q]) h kv (some ⟨b', #[u, v, s, c, d], T, true⟩) = kv undef (upd h b #[.int .i8 x, .int .i8 y, .float .f32 q, c, d]) := by
  rw [st_of (m := 3) rfl (by simp) (by simp [Value.oneCell'])]; simp [splice]
theorem zq83 {b b' T : Nat} {x y i j : Int} {q : Nat} {u v s c d : Value} : vstoreAt 5 b 0 (.agg #[.int .i8 x, .int .i8 y, .float .f32 q, .int .i8 i, .int .i8 j]) h kv (some ⟨b', #[u, v, s, c, d], T, true⟩) = kv undef (upd h b #[.int .i8 x, .int .i8 y, .float .f32 q, .int .i8 i, .int .i8 j]) := by
  rw [st_of (m := 5) rfl (by simp) (by simp [Value.oneCell']), splice_all (by simp)]
end

/-! ### what a proof applies by hand -/
section
variable {P : Program} {R K : Kont} {X : List (Nat × Kont)} {ρ : Env} {h : Hp} {k : Value → Prop} {kv : Value → Hp → Prop}

theorem vcond_dec_split {p : Prop} [Decidable p] {A B : Kont} (ht : p → A ρ h) (hf : ¬ p → B ρ h) : vcond (.bool (decide p)) A B ρ h := ⟨fun e => ht (of_decide_eq_true e), fun e => hf (of_decide_eq_false e)⟩
theorem vcond_eq_split {a b : Int} {A B : Kont} (ht : a = b → A ρ h) (hf : a ≠ b → B ρ h) : vcond (.bool (a == b)) A B ρ h := ⟨fun e => ht (by simpa using e), fun e => hf (by simpa using e)⟩
theorem vcond_ne_split {a b : Int} {A B : Kont} (ht : a ≠ b → A ρ h) (hf : a = b → B ρ h) : vcond (.bool (a != b)) A B ρ h := ⟨fun e => ht (by simpa using e), fun e => hf (by simpa using e)⟩

/-- a region that draws: exact operations may read all that is known (it stays) -/
theorem bops_go {l : List VI} (hv : vbops P h l K ρ h) : vc P R (.bops l) K X ρ h := ⟨h, List.Sublist.refl _, hv⟩
/-- .. or these blocks -/
theorem bops_with (hc : Hp) {l : List VI} (hs : hc.Sublist h) (hv : vbops P hc l K ρ h) : vc P R (.bops l) K X ρ h := ⟨hc, hs, hv⟩
theorem dops_go (Rf : Nat → Array Value → Value → Prop) {l : List VI} (hv : vdops P Rf h l (kq K h) ρ) : vc P R (.dops l) K X ρ h := ⟨Rf, hv⟩

theorem m0 {x : Blk} : x ∈ x :: h := List.mem_cons_self
theorem m1 {x y : Blk} : x ∈ y :: x :: h := List.mem_cons_of_mem _ m0
theorem m2 {x y z : Blk} : x ∈ y :: z :: x :: h := List.mem_cons_of_mem _ m1
theorem m3 {x y z u : Blk} : x ∈ y :: z :: u :: x :: h := List.mem_cons_of_mem _ m2

theorem bnd_go {n : Int} {m : Int} {p : Prop} (h1 : 0 ≤ n) (h2 : n < m) (hp : p) : (0 ≤ n ∧ n < m) ∧ p := ⟨⟨h1, h2⟩, hp⟩
theorem nn_go {n : Int} {p : Prop} (h : 0 ≤ n) (hp : p) : 0 ≤ n ∧ p := ⟨h, hp⟩
theorem getB_go {o : Option UInt8} {b : UInt8} (h : o = some b) (hk : k (.int .u8 b.toNat)) : getB o k := by rw [h]; exact hk
theorem getV_go {o : Option Value} {v : Value} (h : o = some v) (hk : k v) : getV o k := by rw [h]; exact hk
theorem store_go {n b off : Nat} {v : Value} {x : Blk} (ho : x.own = true) (hs : v.cells.size = n) (hl : off + n ≤ x.cells.size) (h1 : v.cells.all (·.oneCell') = true) (hk : kv undef (upd h b (stored x.cells off v))) : vstoreAt n b off v h kv (some x) := ⟨ho, hs, hl, h1, hk⟩

theorem store_f {b off : Nat} {kd : FloatKind} {r b' T : Nat} {cs : Array Value} (hl : off < cs.size) (hk : kv undef (upd h b (cs.setIfInBounds off (.float kd r)))) : vstoreAt 1 b off (.float kd r) h kv (some ⟨b', cs, T, true⟩) :=
  store_go rfl rfl (by show off + 1 ≤ cs.size; omega) (by simp [Value.cells, Value.oneCell']) hk
theorem store_i {b off : Nat} {kd : IntKind} {r : Int} {b' T : Nat} {cs : Array Value} (hl : off < cs.size) (hk : kv undef (upd h b (cs.setIfInBounds off (.int kd r)))) : vstoreAt 1 b off (.int kd r) h kv (some ⟨b', cs, T, true⟩) :=
  store_go rfl rfl (by show off + 1 ≤ cs.size; omega) (by simp [Value.cells, Value.oneCell']) hk
theorem store_b {b off : Nat} {r : Bool} {b' T : Nat} {cs : Array Value} (hl : off < cs.size) (hk : kv undef (upd h b (cs.setIfInBounds off (.bool r)))) : vstoreAt 1 b off (.bool r) h kv (some ⟨b', cs, T, true⟩) :=
  store_go rfl rfl (by show off + 1 ≤ cs.size; omega) (by simp [Value.cells, Value.oneCell']) hk
theorem store_fc {b off : Nat} {f : Nat → Nat} {b' T : Nat} {cs : Array Value} (hl : off + 64 ≤ cs.size) (hk : kv undef (upd h b (splice cs off (fcells f)))) : vstoreAt 64 b off (.agg (fcells f)) h kv (some ⟨b', cs, T, true⟩) :=
  store_go rfl (fcells_size f) hl (f_one f) hk
theorem store_gc {b off : Nat} {g : G} {b' T : Nat} {cs : Array Value} (hl : off + 195 ≤ cs.size) (hk : kv undef (upd h b (splice cs off (gcells g)))) : vstoreAt 195 b off (.agg (gcells g)) h kv (some ⟨b', cs, T, true⟩) :=
  store_go rfl (gcells_size g) hl (g_one g) hk
theorem store_brc {b off : Nat} {g : Br} {b' T : Nat} {cs : Array Value} (hl : off + 324 ≤ cs.size) (hk : kv undef (upd h b (splice cs off (brcells g)))) : vstoreAt 324 b off (.agg (brcells g)) h kv (some ⟨b', cs, T, true⟩) :=
  store_go rfl (brcells_size g) hl (br_one g) hk
theorem many_go {off m : Nat} {cs vs : Array Value} (hs : off + m ≤ cs.size) (he : cs.extract off (off + m) = vs) (hk : k (.agg vs)) : getN (some m) cs off k := ⟨hs, by rw [he]; exact hk⟩

theorem fr_cons {b : Nat} {x : Blk} : Fresh b (x :: h) = ((b ≠ x.base ∧ x.base ≠ b) ∧ Fresh b h) := by
  apply propext
  constructor
  · intro hf; exact ⟨⟨hf x List.mem_cons_self, Ne.symm (hf x List.mem_cons_self)⟩, fun y hy => hf y (List.mem_cons_of_mem _ hy)⟩
  · rintro ⟨⟨h1, _⟩, h2⟩ y hy
    cases hy with
    | head => exact h1
    | tail _ hy => exact h2 y hy
theorem fr_nil {b : Nat} : Fresh b [] = True := by simp [Fresh]

theorem bslice_go {e esz len : Nat} {z : Array Value} {parts : List (Nat × Value)} {cs : Array Value} (hcs : bcells esz len z parts = some cs) (hk : ∀ b, Fresh b h → kv (.slice (some ⟨b, 0, none⟩) len len) (⟨b, cs, e, true⟩ :: h)) : vbslice e esz len z parts h kv := by
  unfold vbslice; rw [hcs]; exact hk
theorem bslice_nil {e esz : Nat} {z : Array Value} (hk : ∀ b, Fresh b h → kv (.slice (some ⟨b, 0, none⟩) 0 0) (⟨b, #[], e, true⟩ :: h)) : vbslice e esz 0 z [] h kv :=
  bslice_go (by simp [bcells, Instr.fill]) hk
theorem bslice_one {e : Nat} {z v : Value} (hk : ∀ b, Fresh b h → kv (.slice (some ⟨b, 0, none⟩) 1 1) (⟨b, #[v], e, true⟩ :: h)) (hv : v.cells = #[v]) : vbslice e 1 1 #[z] [(0, v)] h kv :=
  bslice_go (by
    have e1 : Array.range 1 = #[0] := by decide
    simp [bcells, Instr.fill, hv, e1]) hk

/-- a loop that goes up to N rounds -/
def up (N : Nat) (I : Nat → Kont) : Nat → Kont := fun n ρ h => n ≤ N ∧ I (N - n) ρ h

theorem again_up {N i : Nat} {I : Nat → Kont} (hi : i < N) (hI : I (i + 1) ρ h) : again (up N I) (N - i) ρ h :=
  ⟨N - (i + 1), h, by omega, List.Sublist.refl _, by omega, by rw [show N - (N - (i + 1)) = i + 1 by omega]; exact hI⟩

theorem again_up_sub {N i : Nat} {I : Nat → Kont} (hi : i < N) (h' : Hp) (hs : h'.Sublist h) (hI : I (i + 1) ρ h') : again (up N I) (N - i) ρ h :=
  ⟨N - (i + 1), h', by omega, hs, by omega, by rw [show N - (N - (i + 1)) = i + 1 by omega]; exact hI⟩

theorem loop_up (N : Nat) (I : Nat → Kont) {a : V} (init : I 0 ρ h) (round : ∀ i ρ' h', i ≤ N → I i ρ' h' → vc P R a (again (up N I) (N - i)) X ρ' h') : vc P R (.loop a) K X ρ h :=
  ⟨up N I, ⟨N, h, List.Sublist.refl _, Nat.le_refl _, by rw [Nat.sub_self]; exact init⟩, fun n ρ' h' ⟨hn, hI⟩ => by
    have := round (N - n) ρ' h' (by omega) hI
    rw [show N - (N - n) = n by omega] at this
    exact this⟩

theorem Holds.get {M : Nat → Prop} {w0 w : World} {b T : Nat} {cs : Array Value} {o : Bool} (H : Holds M w0 h w) (hm : (⟨b, cs, T, o⟩ : Blk) ∈ h) (hT : T ≠ anyT := by decide) : w.heap[b]? = some (.cells cs T (0, 0)) := (H.at_ _ hm).exact (.inr hT)

/-- .. of a block that is one's own -/
theorem Holds.got {M : Nat → Prop} {w0 w : World} {b T : Nat} {cs : Array Value} (H : Holds M w0 h w) (hm : (⟨b, cs, T, true⟩ : Blk) ∈ h) : w.heap[b]? = some (.cells cs T (0, 0)) := (H.at_ _ hm).exact (.inl rfl)

/-- a block of which the cells are known -/
def Cells (w : World) (b : Nat) (cs : Array Value) : Prop := ∃ T fz, w.heap[b]? = some (.cells cs T fz)

theorem Holds.cells {M : Nat → Prop} {w0 w : World} {b T : Nat} {cs : Array Value} {o : Bool} (H : Holds M w0 h w) (hm : (⟨b, cs, T, o⟩ : Blk) ∈ h) : Cells w b cs := by
  obtain ⟨T', fz, h1, _⟩ := H.at_ _ hm
  exact ⟨T', fz, h1⟩

theorem There.one {w : World} {b T : Nat} {cs : Array Value} (hb : w.heap[b]? = some (.cells cs T (0, 0))) : There w [⟨b, cs, T, false⟩] :=
  ⟨fun x hx => by simp at hx; subst hx; exact ⟨.mk hb, rfl⟩, by simp⟩

theorem There.any {w : World} {b : Nat} {cs : Array Value} (hb : Cells w b cs) : There w [⟨b, cs, anyT, false⟩] :=
  ⟨fun x hx => by
    simp at hx; subst hx
    obtain ⟨T, fz, hb⟩ := hb
    exact ⟨.any hb rfl rfl, rfl⟩, by simp⟩

theorem There.any2 {w : World} {b b2 : Nat} {cs cs2 : Array Value} (hb : Cells w b cs) (hb2 : Cells w b2 cs2) (hne : b ≠ b2) : There w [⟨b, cs, anyT, false⟩, ⟨b2, cs2, anyT, false⟩] :=
  ⟨fun x hx => by
    simp at hx
    rcases hx with rfl | rfl
    · obtain ⟨T, fz, hb⟩ := hb
      exact ⟨.any hb rfl rfl, rfl⟩
    · obtain ⟨T, fz, hb2⟩ := hb2
      exact ⟨.any hb2 rfl rfl, rfl⟩, by simp [hne]⟩

theorem There.two {w : World} {b T b2 T2 : Nat} {cs cs2 : Array Value} (hb : w.heap[b]? = some (.cells cs T (0, 0))) (hb2 : w.heap[b2]? = some (.cells cs2 T2 (0, 0))) (hne : b ≠ b2) : There w [⟨b, cs, T, false⟩, ⟨b2, cs2, T2, false⟩] :=
  ⟨fun x hx => by
    simp at hx
    rcases hx with rfl | rfl
    · exact ⟨.mk hb, rfl⟩
    · exact ⟨.mk hb2, rfl⟩, by simp [hne]⟩
end
end Go.Vc
