/- The seat's types, fields and functions, as the pen's rules ask for them. Written by a program of this repo (facts.py). -/
import Derived.Test.YtghmkheoopakaaaProg
import Derived.Test.YtghmkheoopakaaaPenE
set_option maxRecDepth 100000
namespace Go.Proofs.Ytghmkheoopakaaa
open Go.Pen

instance : TI Try.prog 1 1 8 .nilFunc := TI.mk' (by kernel_rfl)
instance : TScal Try.prog 1 := TScal.mk' Try.underlying1 rfl
instance : TI Try.prog 2 1 8 (.int .i64 0) := TI.mk' (by kernel_rfl)
instance : TScal Try.prog 2 := TScal.mk' Try.underlying2 rfl
instance : TInt Try.prog 2 .i64 := ⟨Try.underlying2⟩
instance : TI Try.prog 3 1 8 (.int .i64 0) := TI.mk' (by kernel_rfl)
instance : TScal Try.prog 3 := TScal.mk' Try.underlying3 rfl
instance : TInt Try.prog 3 .i64 := ⟨Try.underlying3⟩
instance : TI Try.prog 4 1 1 (.bool false) := TI.mk' (by kernel_rfl)
instance : TScal Try.prog 4 := TScal.mk' Try.underlying4 rfl
instance : TBool Try.prog 4 := ⟨Try.underlying4⟩
instance : TI Try.prog 5 1 1 (.int .u8 0) := TI.mk' (by kernel_rfl)
instance : TScal Try.prog 5 := TScal.mk' Try.underlying5 rfl
instance : TInt Try.prog 5 .u8 := ⟨Try.underlying5⟩
instance : TI Try.prog 6 1 1 (.int .u8 0) := TI.mk' (by kernel_rfl)
instance : TScal Try.prog 6 := TScal.mk' Try.underlying6 rfl
instance : TInt Try.prog 6 .u8 := ⟨Try.underlying6⟩
instance : TI Try.prog 7 4 24 (.agg #[(.int .i64 0), (.int .i64 0), (.bool false), (.int .u8 0)]) := TI.mk' (by kernel_rfl)
instance : TAggr Try.prog 7 := TAggr.mk' Try.underlying7 rfl
instance : TFld Try.prog 7 0 0 := TFld.mk' (fl := { name := "x", type := 2, offset := 0, embedded := false, tag := "", pkgPath := "runtime", byteOffset := 0 }) Try.underlying7 rfl (inferInstance : TI Try.prog 2 1 8 (.int .i64 0)) (by decide)
instance : TFieldV Try.prog 7 0 2 0 := ⟨_, { name := "x", type := 2, offset := 0, embedded := false, tag := "", pkgPath := "runtime", byteOffset := 0 }, Try.underlying7, rfl, rfl, rfl⟩
instance : TFld Try.prog 7 1 1 := TFld.mk' (fl := { name := "y", type := 3, offset := 1, embedded := false, tag := "", pkgPath := "runtime", byteOffset := 8 }) Try.underlying7 rfl (inferInstance : TI Try.prog 3 1 8 (.int .i64 0)) (by decide)
instance : TFieldV Try.prog 7 1 3 1 := ⟨_, { name := "y", type := 3, offset := 1, embedded := false, tag := "", pkgPath := "runtime", byteOffset := 8 }, Try.underlying7, rfl, rfl, rfl⟩
instance : TFld Try.prog 7 2 2 := TFld.mk' (fl := { name := "signed", type := 4, offset := 2, embedded := false, tag := "", pkgPath := "runtime", byteOffset := 16 }) Try.underlying7 rfl (inferInstance : TI Try.prog 4 1 1 (.bool false)) (by decide)
instance : TFieldV Try.prog 7 2 4 2 := ⟨_, { name := "signed", type := 4, offset := 2, embedded := false, tag := "", pkgPath := "runtime", byteOffset := 16 }, Try.underlying7, rfl, rfl, rfl⟩
instance : TFld Try.prog 7 3 3 := TFld.mk' (fl := { name := "code", type := 6, offset := 3, embedded := false, tag := "", pkgPath := "runtime", byteOffset := 17 }) Try.underlying7 rfl (inferInstance : TI Try.prog 6 1 1 (.int .u8 0)) (by decide)
instance : TFieldV Try.prog 7 3 6 3 := ⟨_, { name := "code", type := 6, offset := 3, embedded := false, tag := "", pkgPath := "runtime", byteOffset := 17 }, Try.underlying7, rfl, rfl, rfl⟩
instance : TI Try.prog 8 4 24 (.agg #[(.int .i64 0), (.int .i64 0), (.bool false), (.int .u8 0)]) := TI.mk' (by kernel_rfl)
instance : TAggr Try.prog 8 := TAggr.mk' Try.underlying8 rfl
instance : TFld Try.prog 8 0 0 := TFld.mk' (fl := { name := "x", type := 2, offset := 0, embedded := false, tag := "", pkgPath := "runtime", byteOffset := 0 }) Try.underlying8 rfl (inferInstance : TI Try.prog 2 1 8 (.int .i64 0)) (by decide)
instance : TFieldV Try.prog 8 0 2 0 := ⟨_, { name := "x", type := 2, offset := 0, embedded := false, tag := "", pkgPath := "runtime", byteOffset := 0 }, Try.underlying8, rfl, rfl, rfl⟩
instance : TFld Try.prog 8 1 1 := TFld.mk' (fl := { name := "y", type := 3, offset := 1, embedded := false, tag := "", pkgPath := "runtime", byteOffset := 8 }) Try.underlying8 rfl (inferInstance : TI Try.prog 3 1 8 (.int .i64 0)) (by decide)
instance : TFieldV Try.prog 8 1 3 1 := ⟨_, { name := "y", type := 3, offset := 1, embedded := false, tag := "", pkgPath := "runtime", byteOffset := 8 }, Try.underlying8, rfl, rfl, rfl⟩
instance : TFld Try.prog 8 2 2 := TFld.mk' (fl := { name := "signed", type := 4, offset := 2, embedded := false, tag := "", pkgPath := "runtime", byteOffset := 16 }) Try.underlying8 rfl (inferInstance : TI Try.prog 4 1 1 (.bool false)) (by decide)
instance : TFieldV Try.prog 8 2 4 2 := ⟨_, { name := "signed", type := 4, offset := 2, embedded := false, tag := "", pkgPath := "runtime", byteOffset := 16 }, Try.underlying8, rfl, rfl, rfl⟩
instance : TFld Try.prog 8 3 3 := TFld.mk' (fl := { name := "code", type := 6, offset := 3, embedded := false, tag := "", pkgPath := "runtime", byteOffset := 17 }) Try.underlying8 rfl (inferInstance : TI Try.prog 6 1 1 (.int .u8 0)) (by decide)
instance : TFieldV Try.prog 8 3 6 3 := ⟨_, { name := "code", type := 6, offset := 3, embedded := false, tag := "", pkgPath := "runtime", byteOffset := 17 }, Try.underlying8, rfl, rfl, rfl⟩
instance : TI Try.prog 12 1 8 (.int .u64 0) := TI.mk' (by kernel_rfl)
instance : TScal Try.prog 12 := TScal.mk' Try.underlying12 rfl
instance : TInt Try.prog 12 .u64 := ⟨Try.underlying12⟩
instance : TI Try.prog 15 1 8 (.pointer none) := TI.mk' (by kernel_rfl)
instance : TScal Try.prog 15 := TScal.mk' Try.underlying15 rfl
instance : TI Try.prog 16 1 8 (.pointer none) := TI.mk' (by kernel_rfl)
instance : TScal Try.prog 16 := TScal.mk' Try.underlying16 rfl
instance : TI Try.prog 17 1 8 (.pointer none) := TI.mk' (by kernel_rfl)
instance : TScal Try.prog 17 := TScal.mk' Try.underlying17 rfl
instance : TI Try.prog 18 1 8 (.agg #[(.pointer none)]) := TI.mk' (by kernel_rfl)
instance : TAggr Try.prog 18 := TAggr.mk' Try.underlying18 rfl
instance : TFld Try.prog 18 0 0 := TFld.mk' (fl := { name := "typ", type := 17, offset := 0, embedded := false, tag := "", pkgPath := "internal/runtime/maps", byteOffset := 0 }) Try.underlying18 rfl (inferInstance : TI Try.prog 17 1 8 (.pointer none)) (by decide)
instance : TFieldV Try.prog 18 0 17 0 := ⟨_, { name := "typ", type := 17, offset := 0, embedded := false, tag := "", pkgPath := "internal/runtime/maps", byteOffset := 0 }, Try.underlying18, rfl, rfl, rfl⟩
instance : TI Try.prog 19 1 8 (.agg #[(.pointer none)]) := TI.mk' (by kernel_rfl)
instance : TAggr Try.prog 19 := TAggr.mk' Try.underlying19 rfl
instance : TFld Try.prog 19 0 0 := TFld.mk' (fl := { name := "typ", type := 17, offset := 0, embedded := false, tag := "", pkgPath := "internal/runtime/maps", byteOffset := 0 }) Try.underlying19 rfl (inferInstance : TI Try.prog 17 1 8 (.pointer none)) (by decide)
instance : TFieldV Try.prog 19 0 17 0 := ⟨_, { name := "typ", type := 17, offset := 0, embedded := false, tag := "", pkgPath := "internal/runtime/maps", byteOffset := 0 }, Try.underlying19, rfl, rfl, rfl⟩
instance : TI Try.prog 20 1 16 .nilIface := TI.mk' (by kernel_rfl)
instance : TScal Try.prog 20 := TScal.mk' Try.underlying20 rfl
instance : TI Try.prog 21 1 4 (.int .i32 0) := TI.mk' (by kernel_rfl)
instance : TScal Try.prog 21 := TScal.mk' Try.underlying21 rfl
instance : TInt Try.prog 21 .i32 := ⟨Try.underlying21⟩
instance : TI Try.prog 22 1 24 (.slice none 0 0) := TI.mk' (by kernel_rfl)
instance : TScal Try.prog 22 := TScal.mk' Try.underlying22 rfl
instance : TSlice Try.prog 22 3 := ⟨Try.underlying22⟩
instance : TI Try.prog 23 2 48 (.agg #[(.slice none 0 0), (.slice none 0 0)]) := TI.mk' (by kernel_rfl)
instance : TAggr Try.prog 23 := TAggr.mk' Try.underlying23 rfl
instance : TFld Try.prog 23 0 0 := TFld.mk' (fl := { name := "Lo", type := 22, offset := 0, embedded := false, tag := "", pkgPath := "", byteOffset := 0 }) Try.underlying23 rfl (inferInstance : TI Try.prog 22 1 24 (.slice none 0 0)) (by decide)
instance : TFieldV Try.prog 23 0 22 0 := ⟨_, { name := "Lo", type := 22, offset := 0, embedded := false, tag := "", pkgPath := "", byteOffset := 0 }, Try.underlying23, rfl, rfl, rfl⟩
instance : TFld Try.prog 23 1 1 := TFld.mk' (fl := { name := "Hi", type := 22, offset := 1, embedded := false, tag := "", pkgPath := "", byteOffset := 24 }) Try.underlying23 rfl (inferInstance : TI Try.prog 22 1 24 (.slice none 0 0)) (by decide)
instance : TFieldV Try.prog 23 1 22 1 := ⟨_, { name := "Hi", type := 22, offset := 1, embedded := false, tag := "", pkgPath := "", byteOffset := 24 }, Try.underlying23, rfl, rfl, rfl⟩
instance : TI Try.prog 24 2 48 (.agg #[(.slice none 0 0), (.slice none 0 0)]) := TI.mk' (by kernel_rfl)
instance : TAggr Try.prog 24 := TAggr.mk' Try.underlying24 rfl
instance : TFld Try.prog 24 0 0 := TFld.mk' (fl := { name := "Lo", type := 22, offset := 0, embedded := false, tag := "", pkgPath := "", byteOffset := 0 }) Try.underlying24 rfl (inferInstance : TI Try.prog 22 1 24 (.slice none 0 0)) (by decide)
instance : TFieldV Try.prog 24 0 22 0 := ⟨_, { name := "Lo", type := 22, offset := 0, embedded := false, tag := "", pkgPath := "", byteOffset := 0 }, Try.underlying24, rfl, rfl, rfl⟩
instance : TFld Try.prog 24 1 1 := TFld.mk' (fl := { name := "Hi", type := 22, offset := 1, embedded := false, tag := "", pkgPath := "", byteOffset := 24 }) Try.underlying24 rfl (inferInstance : TI Try.prog 22 1 24 (.slice none 0 0)) (by decide)
instance : TFieldV Try.prog 24 1 22 1 := ⟨_, { name := "Hi", type := 22, offset := 1, embedded := false, tag := "", pkgPath := "", byteOffset := 24 }, Try.underlying24, rfl, rfl, rfl⟩
instance : TI Try.prog 25 1 8 .nilFunc := TI.mk' (by kernel_rfl)
instance : TScal Try.prog 25 := TScal.mk' Try.underlying25 rfl
instance : TI Try.prog 26 1 8 .nilFunc := TI.mk' (by kernel_rfl)
instance : TScal Try.prog 26 := TScal.mk' Try.underlying26 rfl
instance : TI Try.prog 27 1 8 (.int .i64 0) := TI.mk' (by kernel_rfl)
instance : TScal Try.prog 27 := TScal.mk' Try.underlying27 rfl
instance : TInt Try.prog 27 .i64 := ⟨Try.underlying27⟩
instance : TI Try.prog 29 1 8 .nilFunc := TI.mk' (by kernel_rfl)
instance : TScal Try.prog 29 := TScal.mk' Try.underlying29 rfl
instance : TI Try.prog 30 1 8 .nilFunc := TI.mk' (by kernel_rfl)
instance : TScal Try.prog 30 := TScal.mk' Try.underlying30 rfl
instance : TI Try.prog 31 1 8 .nilFunc := TI.mk' (by kernel_rfl)
instance : TScal Try.prog 31 := TScal.mk' Try.underlying31 rfl
instance : TI Try.prog 32 1 8 .nilFunc := TI.mk' (by kernel_rfl)
instance : TScal Try.prog 32 := TScal.mk' Try.underlying32 rfl
instance : TI Try.prog 33 1 24 (.slice none 0 0) := TI.mk' (by kernel_rfl)
instance : TScal Try.prog 33 := TScal.mk' Try.underlying33 rfl
instance : TSlice Try.prog 33 4 := ⟨Try.underlying33⟩
instance : TI Try.prog 34 1 8 .nilFunc := TI.mk' (by kernel_rfl)
instance : TScal Try.prog 34 := TScal.mk' Try.underlying34 rfl
instance : TI Try.prog 35 1 8 .nilFunc := TI.mk' (by kernel_rfl)
instance : TScal Try.prog 35 := TScal.mk' Try.underlying35 rfl
instance : TI Try.prog 36 1 8 .nilFunc := TI.mk' (by kernel_rfl)
instance : TScal Try.prog 36 := TScal.mk' Try.underlying36 rfl
instance : TI Try.prog 37 2 16 (.agg #[(.int .i64 0), (.int .i64 0)]) := TI.mk' (by kernel_rfl)
instance : TAggr Try.prog 37 := TAggr.mk' Try.underlying37 rfl
instance : TFld Try.prog 37 0 0 := TFld.mk' (fl := { name := "P", type := 3, offset := 0, embedded := false, tag := "", pkgPath := "", byteOffset := 0 }) Try.underlying37 rfl (inferInstance : TI Try.prog 3 1 8 (.int .i64 0)) (by decide)
instance : TFieldV Try.prog 37 0 3 0 := ⟨_, { name := "P", type := 3, offset := 0, embedded := false, tag := "", pkgPath := "", byteOffset := 0 }, Try.underlying37, rfl, rfl, rfl⟩
instance : TFld Try.prog 37 1 1 := TFld.mk' (fl := { name := "Q", type := 3, offset := 1, embedded := false, tag := "", pkgPath := "", byteOffset := 8 }) Try.underlying37 rfl (inferInstance : TI Try.prog 3 1 8 (.int .i64 0)) (by decide)
instance : TFieldV Try.prog 37 1 3 1 := ⟨_, { name := "Q", type := 3, offset := 1, embedded := false, tag := "", pkgPath := "", byteOffset := 8 }, Try.underlying37, rfl, rfl, rfl⟩
instance : TI Try.prog 38 2 16 (.agg #[(.int .i64 0), (.int .i64 0)]) := TI.mk' (by kernel_rfl)
instance : TAggr Try.prog 38 := TAggr.mk' Try.underlying38 rfl
instance : TFld Try.prog 38 0 0 := TFld.mk' (fl := { name := "P", type := 3, offset := 0, embedded := false, tag := "", pkgPath := "", byteOffset := 0 }) Try.underlying38 rfl (inferInstance : TI Try.prog 3 1 8 (.int .i64 0)) (by decide)
instance : TFieldV Try.prog 38 0 3 0 := ⟨_, { name := "P", type := 3, offset := 0, embedded := false, tag := "", pkgPath := "", byteOffset := 0 }, Try.underlying38, rfl, rfl, rfl⟩
instance : TFld Try.prog 38 1 1 := TFld.mk' (fl := { name := "Q", type := 3, offset := 1, embedded := false, tag := "", pkgPath := "", byteOffset := 8 }) Try.underlying38 rfl (inferInstance : TI Try.prog 3 1 8 (.int .i64 0)) (by decide)
instance : TFieldV Try.prog 38 1 3 1 := ⟨_, { name := "Q", type := 3, offset := 1, embedded := false, tag := "", pkgPath := "", byteOffset := 8 }, Try.underlying38, rfl, rfl, rfl⟩
instance : TI Try.prog 39 1 16 (.complex .f64 0 0) := TI.mk' (by kernel_rfl)
instance : TScal Try.prog 39 := TScal.mk' Try.underlying39 rfl
instance : TI Try.prog 40 1 24 (.slice none 0 0) := TI.mk' (by kernel_rfl)
instance : TScal Try.prog 40 := TScal.mk' Try.underlying40 rfl
instance : TSlice Try.prog 40 39 := ⟨Try.underlying40⟩
instance : TI Try.prog 41 3 40 (.agg #[(.int .i64 0), (.int .i64 0), (.slice none 0 0)]) := TI.mk' (by kernel_rfl)
instance : TAggr Try.prog 41 := TAggr.mk' Try.underlying41 rfl
instance : TFld Try.prog 41 0 0 := TFld.mk' (fl := { name := "Dir", type := 38, offset := 0, embedded := false, tag := "", pkgPath := "", byteOffset := 0 }) Try.underlying41 rfl (inferInstance : TI Try.prog 38 2 16 (.agg #[(.int .i64 0), (.int .i64 0)])) (by decide)
instance : TFieldV Try.prog 41 0 38 0 := ⟨_, { name := "Dir", type := 38, offset := 0, embedded := false, tag := "", pkgPath := "", byteOffset := 0 }, Try.underlying41, rfl, rfl, rfl⟩
instance : TFld Try.prog 41 1 2 := TFld.mk' (fl := { name := "Bins", type := 40, offset := 2, embedded := false, tag := "", pkgPath := "", byteOffset := 16 }) Try.underlying41 rfl (inferInstance : TI Try.prog 40 1 24 (.slice none 0 0)) (by decide)
instance : TFieldV Try.prog 41 1 40 2 := ⟨_, { name := "Bins", type := 40, offset := 2, embedded := false, tag := "", pkgPath := "", byteOffset := 16 }, Try.underlying41, rfl, rfl, rfl⟩
instance : TI Try.prog 42 3 40 (.agg #[(.int .i64 0), (.int .i64 0), (.slice none 0 0)]) := TI.mk' (by kernel_rfl)
instance : TAggr Try.prog 42 := TAggr.mk' Try.underlying42 rfl
instance : TFld Try.prog 42 0 0 := TFld.mk' (fl := { name := "Dir", type := 38, offset := 0, embedded := false, tag := "", pkgPath := "", byteOffset := 0 }) Try.underlying42 rfl (inferInstance : TI Try.prog 38 2 16 (.agg #[(.int .i64 0), (.int .i64 0)])) (by decide)
instance : TFieldV Try.prog 42 0 38 0 := ⟨_, { name := "Dir", type := 38, offset := 0, embedded := false, tag := "", pkgPath := "", byteOffset := 0 }, Try.underlying42, rfl, rfl, rfl⟩
instance : TFld Try.prog 42 1 2 := TFld.mk' (fl := { name := "Bins", type := 40, offset := 2, embedded := false, tag := "", pkgPath := "", byteOffset := 16 }) Try.underlying42 rfl (inferInstance : TI Try.prog 40 1 24 (.slice none 0 0)) (by decide)
instance : TFieldV Try.prog 42 1 40 2 := ⟨_, { name := "Bins", type := 40, offset := 2, embedded := false, tag := "", pkgPath := "", byteOffset := 16 }, Try.underlying42, rfl, rfl, rfl⟩
instance : TI Try.prog 43 1 24 (.slice none 0 0) := TI.mk' (by kernel_rfl)
instance : TScal Try.prog 43 := TScal.mk' Try.underlying43 rfl
instance : TSlice Try.prog 43 42 := ⟨Try.underlying43⟩
instance : TI Try.prog 44 1 8 .nilFunc := TI.mk' (by kernel_rfl)
instance : TScal Try.prog 44 := TScal.mk' Try.underlying44 rfl
instance : TI Try.prog 45 1 24 (.slice none 0 0) := TI.mk' (by kernel_rfl)
instance : TScal Try.prog 45 := TScal.mk' Try.underlying45 rfl
instance : TSlice Try.prog 45 70 := ⟨Try.underlying45⟩
instance : TI Try.prog 47 1 8 .nilFunc := TI.mk' (by kernel_rfl)
instance : TScal Try.prog 47 := TScal.mk' Try.underlying47 rfl
instance : TI Try.prog 48 1 8 (.pointer none) := TI.mk' (by kernel_rfl)
instance : TScal Try.prog 48 := TScal.mk' Try.underlying48 rfl
instance : TI Try.prog 49 3 56 (.agg #[(.slice none 0 0), (.slice none 0 0), (.bool false)]) := TI.mk' (by kernel_rfl)
instance : TAggr Try.prog 49 := TAggr.mk' Try.underlying49 rfl
instance : TFld Try.prog 49 0 0 := TFld.mk' (fl := { name := "lo", type := 22, offset := 0, embedded := false, tag := "", pkgPath := "penumbra/bound", byteOffset := 0 }) Try.underlying49 rfl (inferInstance : TI Try.prog 22 1 24 (.slice none 0 0)) (by decide)
instance : TFieldV Try.prog 49 0 22 0 := ⟨_, { name := "lo", type := 22, offset := 0, embedded := false, tag := "", pkgPath := "penumbra/bound", byteOffset := 0 }, Try.underlying49, rfl, rfl, rfl⟩
instance : TFld Try.prog 49 1 1 := TFld.mk' (fl := { name := "hi", type := 22, offset := 1, embedded := false, tag := "", pkgPath := "penumbra/bound", byteOffset := 24 }) Try.underlying49 rfl (inferInstance : TI Try.prog 22 1 24 (.slice none 0 0)) (by decide)
instance : TFieldV Try.prog 49 1 22 1 := ⟨_, { name := "hi", type := 22, offset := 1, embedded := false, tag := "", pkgPath := "penumbra/bound", byteOffset := 24 }, Try.underlying49, rfl, rfl, rfl⟩
instance : TFld Try.prog 49 2 2 := TFld.mk' (fl := { name := "changed", type := 4, offset := 2, embedded := false, tag := "", pkgPath := "penumbra/bound", byteOffset := 48 }) Try.underlying49 rfl (inferInstance : TI Try.prog 4 1 1 (.bool false)) (by decide)
instance : TFieldV Try.prog 49 2 4 2 := ⟨_, { name := "changed", type := 4, offset := 2, embedded := false, tag := "", pkgPath := "penumbra/bound", byteOffset := 48 }, Try.underlying49, rfl, rfl, rfl⟩
instance : TI Try.prog 50 3 56 (.agg #[(.slice none 0 0), (.slice none 0 0), (.bool false)]) := TI.mk' (by kernel_rfl)
instance : TAggr Try.prog 50 := TAggr.mk' Try.underlying50 rfl
instance : TFld Try.prog 50 0 0 := TFld.mk' (fl := { name := "lo", type := 22, offset := 0, embedded := false, tag := "", pkgPath := "penumbra/bound", byteOffset := 0 }) Try.underlying50 rfl (inferInstance : TI Try.prog 22 1 24 (.slice none 0 0)) (by decide)
instance : TFieldV Try.prog 50 0 22 0 := ⟨_, { name := "lo", type := 22, offset := 0, embedded := false, tag := "", pkgPath := "penumbra/bound", byteOffset := 0 }, Try.underlying50, rfl, rfl, rfl⟩
instance : TFld Try.prog 50 1 1 := TFld.mk' (fl := { name := "hi", type := 22, offset := 1, embedded := false, tag := "", pkgPath := "penumbra/bound", byteOffset := 24 }) Try.underlying50 rfl (inferInstance : TI Try.prog 22 1 24 (.slice none 0 0)) (by decide)
instance : TFieldV Try.prog 50 1 22 1 := ⟨_, { name := "hi", type := 22, offset := 1, embedded := false, tag := "", pkgPath := "penumbra/bound", byteOffset := 24 }, Try.underlying50, rfl, rfl, rfl⟩
instance : TFld Try.prog 50 2 2 := TFld.mk' (fl := { name := "changed", type := 4, offset := 2, embedded := false, tag := "", pkgPath := "penumbra/bound", byteOffset := 48 }) Try.underlying50 rfl (inferInstance : TI Try.prog 4 1 1 (.bool false)) (by decide)
instance : TFieldV Try.prog 50 2 4 2 := ⟨_, { name := "changed", type := 4, offset := 2, embedded := false, tag := "", pkgPath := "penumbra/bound", byteOffset := 48 }, Try.underlying50, rfl, rfl, rfl⟩
instance : TI Try.prog 51 1 8 .nilFunc := TI.mk' (by kernel_rfl)
instance : TScal Try.prog 51 := TScal.mk' Try.underlying51 rfl
instance : TI Try.prog 52 1 8 .nilFunc := TI.mk' (by kernel_rfl)
instance : TScal Try.prog 52 := TScal.mk' Try.underlying52 rfl
instance : TI Try.prog 53 1 8 (.pointer none) := TI.mk' (by kernel_rfl)
instance : TScal Try.prog 53 := TScal.mk' Try.underlying53 rfl
instance : TI Try.prog 54 3 56 (.agg #[(.slice none 0 0), (.slice none 0 0), (.bool false)]) := TI.mk' (by kernel_rfl)
instance : TAggr Try.prog 54 := TAggr.mk' Try.underlying54 rfl
instance : TFld Try.prog 54 0 0 := TFld.mk' (fl := { name := "lo", type := 22, offset := 0, embedded := false, tag := "", pkgPath := "penumbra/penumbraref19", byteOffset := 0 }) Try.underlying54 rfl (inferInstance : TI Try.prog 22 1 24 (.slice none 0 0)) (by decide)
instance : TFieldV Try.prog 54 0 22 0 := ⟨_, { name := "lo", type := 22, offset := 0, embedded := false, tag := "", pkgPath := "penumbra/penumbraref19", byteOffset := 0 }, Try.underlying54, rfl, rfl, rfl⟩
instance : TFld Try.prog 54 1 1 := TFld.mk' (fl := { name := "hi", type := 22, offset := 1, embedded := false, tag := "", pkgPath := "penumbra/penumbraref19", byteOffset := 24 }) Try.underlying54 rfl (inferInstance : TI Try.prog 22 1 24 (.slice none 0 0)) (by decide)
instance : TFieldV Try.prog 54 1 22 1 := ⟨_, { name := "hi", type := 22, offset := 1, embedded := false, tag := "", pkgPath := "penumbra/penumbraref19", byteOffset := 24 }, Try.underlying54, rfl, rfl, rfl⟩
instance : TFld Try.prog 54 2 2 := TFld.mk' (fl := { name := "changed", type := 4, offset := 2, embedded := false, tag := "", pkgPath := "penumbra/penumbraref19", byteOffset := 48 }) Try.underlying54 rfl (inferInstance : TI Try.prog 4 1 1 (.bool false)) (by decide)
instance : TFieldV Try.prog 54 2 4 2 := ⟨_, { name := "changed", type := 4, offset := 2, embedded := false, tag := "", pkgPath := "penumbra/penumbraref19", byteOffset := 48 }, Try.underlying54, rfl, rfl, rfl⟩
instance : TI Try.prog 55 3 56 (.agg #[(.slice none 0 0), (.slice none 0 0), (.bool false)]) := TI.mk' (by kernel_rfl)
instance : TAggr Try.prog 55 := TAggr.mk' Try.underlying55 rfl
instance : TFld Try.prog 55 0 0 := TFld.mk' (fl := { name := "lo", type := 22, offset := 0, embedded := false, tag := "", pkgPath := "penumbra/penumbraref19", byteOffset := 0 }) Try.underlying55 rfl (inferInstance : TI Try.prog 22 1 24 (.slice none 0 0)) (by decide)
instance : TFieldV Try.prog 55 0 22 0 := ⟨_, { name := "lo", type := 22, offset := 0, embedded := false, tag := "", pkgPath := "penumbra/penumbraref19", byteOffset := 0 }, Try.underlying55, rfl, rfl, rfl⟩
instance : TFld Try.prog 55 1 1 := TFld.mk' (fl := { name := "hi", type := 22, offset := 1, embedded := false, tag := "", pkgPath := "penumbra/penumbraref19", byteOffset := 24 }) Try.underlying55 rfl (inferInstance : TI Try.prog 22 1 24 (.slice none 0 0)) (by decide)
instance : TFieldV Try.prog 55 1 22 1 := ⟨_, { name := "hi", type := 22, offset := 1, embedded := false, tag := "", pkgPath := "penumbra/penumbraref19", byteOffset := 24 }, Try.underlying55, rfl, rfl, rfl⟩
instance : TFld Try.prog 55 2 2 := TFld.mk' (fl := { name := "changed", type := 4, offset := 2, embedded := false, tag := "", pkgPath := "penumbra/penumbraref19", byteOffset := 48 }) Try.underlying55 rfl (inferInstance : TI Try.prog 4 1 1 (.bool false)) (by decide)
instance : TFieldV Try.prog 55 2 4 2 := ⟨_, { name := "changed", type := 4, offset := 2, embedded := false, tag := "", pkgPath := "penumbra/penumbraref19", byteOffset := 48 }, Try.underlying55, rfl, rfl, rfl⟩
instance : TI Try.prog 56 1 24 (.slice none 0 0) := TI.mk' (by kernel_rfl)
instance : TScal Try.prog 56 := TScal.mk' Try.underlying56 rfl
instance : TSlice Try.prog 56 57 := ⟨Try.underlying56⟩
instance : TI Try.prog 57 1 24 (.slice none 0 0) := TI.mk' (by kernel_rfl)
instance : TScal Try.prog 57 := TScal.mk' Try.underlying57 rfl
instance : TSlice Try.prog 57 22 := ⟨Try.underlying57⟩
instance : TI Try.prog 58 1 24 (.slice none 0 0) := TI.mk' (by kernel_rfl)
instance : TScal Try.prog 58 := TScal.mk' Try.underlying58 rfl
instance : TSlice Try.prog 58 62 := ⟨Try.underlying58⟩
instance : TI Try.prog 60 1 8 .nilFunc := TI.mk' (by kernel_rfl)
instance : TScal Try.prog 60 := TScal.mk' Try.underlying60 rfl
instance : TI Try.prog 61 2 16 (.agg #[(.int .i64 0), (.int .i64 0)]) := TI.mk' (by kernel_rfl)
instance : TAggr Try.prog 61 := TAggr.mk' Try.underlying61 rfl
instance : TFld Try.prog 61 0 0 := TFld.mk' (fl := { name := "X", type := 3, offset := 0, embedded := false, tag := "", pkgPath := "", byteOffset := 0 }) Try.underlying61 rfl (inferInstance : TI Try.prog 3 1 8 (.int .i64 0)) (by decide)
instance : TFieldV Try.prog 61 0 3 0 := ⟨_, { name := "X", type := 3, offset := 0, embedded := false, tag := "", pkgPath := "", byteOffset := 0 }, Try.underlying61, rfl, rfl, rfl⟩
instance : TFld Try.prog 61 1 1 := TFld.mk' (fl := { name := "Y", type := 3, offset := 1, embedded := false, tag := "", pkgPath := "", byteOffset := 8 }) Try.underlying61 rfl (inferInstance : TI Try.prog 3 1 8 (.int .i64 0)) (by decide)
instance : TFieldV Try.prog 61 1 3 1 := ⟨_, { name := "Y", type := 3, offset := 1, embedded := false, tag := "", pkgPath := "", byteOffset := 8 }, Try.underlying61, rfl, rfl, rfl⟩
instance : TI Try.prog 62 2 16 (.agg #[(.int .i64 0), (.int .i64 0)]) := TI.mk' (by kernel_rfl)
instance : TAggr Try.prog 62 := TAggr.mk' Try.underlying62 rfl
instance : TFld Try.prog 62 0 0 := TFld.mk' (fl := { name := "X", type := 3, offset := 0, embedded := false, tag := "", pkgPath := "", byteOffset := 0 }) Try.underlying62 rfl (inferInstance : TI Try.prog 3 1 8 (.int .i64 0)) (by decide)
instance : TFieldV Try.prog 62 0 3 0 := ⟨_, { name := "X", type := 3, offset := 0, embedded := false, tag := "", pkgPath := "", byteOffset := 0 }, Try.underlying62, rfl, rfl, rfl⟩
instance : TFld Try.prog 62 1 1 := TFld.mk' (fl := { name := "Y", type := 3, offset := 1, embedded := false, tag := "", pkgPath := "", byteOffset := 8 }) Try.underlying62 rfl (inferInstance : TI Try.prog 3 1 8 (.int .i64 0)) (by decide)
instance : TFieldV Try.prog 62 1 3 1 := ⟨_, { name := "Y", type := 3, offset := 1, embedded := false, tag := "", pkgPath := "", byteOffset := 8 }, Try.underlying62, rfl, rfl, rfl⟩
instance : TI Try.prog 63 1 8 .nilFunc := TI.mk' (by kernel_rfl)
instance : TScal Try.prog 63 := TScal.mk' Try.underlying63 rfl
instance : TI Try.prog 64 1 8 .nilFunc := TI.mk' (by kernel_rfl)
instance : TScal Try.prog 64 := TScal.mk' Try.underlying64 rfl
instance : TI Try.prog 66 1 8 .nilFunc := TI.mk' (by kernel_rfl)
instance : TScal Try.prog 66 := TScal.mk' Try.underlying66 rfl
instance : TI Try.prog 67 1 8 .nilFunc := TI.mk' (by kernel_rfl)
instance : TScal Try.prog 67 := TScal.mk' Try.underlying67 rfl
instance : TI Try.prog 68 1 8 (.float .f64 0) := TI.mk' (by kernel_rfl)
instance : TScal Try.prog 68 := TScal.mk' Try.underlying68 rfl
instance : TI Try.prog 69 2 32 (.agg #[(.int .i64 0), (.slice none 0 0)]) := TI.mk' (by kernel_rfl)
instance : TAggr Try.prog 69 := TAggr.mk' Try.underlying69 rfl
instance : TFld Try.prog 69 0 0 := TFld.mk' (fl := { name := "bin", type := 3, offset := 0, embedded := false, tag := "", pkgPath := "penumbra/bound", byteOffset := 0 }) Try.underlying69 rfl (inferInstance : TI Try.prog 3 1 8 (.int .i64 0)) (by decide)
instance : TFieldV Try.prog 69 0 3 0 := ⟨_, { name := "bin", type := 3, offset := 0, embedded := false, tag := "", pkgPath := "penumbra/bound", byteOffset := 0 }, Try.underlying69, rfl, rfl, rfl⟩
instance : TFld Try.prog 69 1 1 := TFld.mk' (fl := { name := "cells", type := 22, offset := 1, embedded := false, tag := "", pkgPath := "penumbra/bound", byteOffset := 8 }) Try.underlying69 rfl (inferInstance : TI Try.prog 22 1 24 (.slice none 0 0)) (by decide)
instance : TFieldV Try.prog 69 1 22 1 := ⟨_, { name := "cells", type := 22, offset := 1, embedded := false, tag := "", pkgPath := "penumbra/bound", byteOffset := 8 }, Try.underlying69, rfl, rfl, rfl⟩
instance : TI Try.prog 70 2 32 (.agg #[(.int .i64 0), (.slice none 0 0)]) := TI.mk' (by kernel_rfl)
instance : TAggr Try.prog 70 := TAggr.mk' Try.underlying70 rfl
instance : TFld Try.prog 70 0 0 := TFld.mk' (fl := { name := "bin", type := 3, offset := 0, embedded := false, tag := "", pkgPath := "penumbra/bound", byteOffset := 0 }) Try.underlying70 rfl (inferInstance : TI Try.prog 3 1 8 (.int .i64 0)) (by decide)
instance : TFieldV Try.prog 70 0 3 0 := ⟨_, { name := "bin", type := 3, offset := 0, embedded := false, tag := "", pkgPath := "penumbra/bound", byteOffset := 0 }, Try.underlying70, rfl, rfl, rfl⟩
instance : TFld Try.prog 70 1 1 := TFld.mk' (fl := { name := "cells", type := 22, offset := 1, embedded := false, tag := "", pkgPath := "penumbra/bound", byteOffset := 8 }) Try.underlying70 rfl (inferInstance : TI Try.prog 22 1 24 (.slice none 0 0)) (by decide)
instance : TFieldV Try.prog 70 1 22 1 := ⟨_, { name := "cells", type := 22, offset := 1, embedded := false, tag := "", pkgPath := "penumbra/bound", byteOffset := 8 }, Try.underlying70, rfl, rfl, rfl⟩
instance : TI Try.prog 71 1 8 .nilFunc := TI.mk' (by kernel_rfl)
instance : TScal Try.prog 71 := TScal.mk' Try.underlying71 rfl
instance : TI Try.prog 72 1 8 .nilFunc := TI.mk' (by kernel_rfl)
instance : TScal Try.prog 72 := TScal.mk' Try.underlying72 rfl
instance : TI Try.prog 73 1 8 .nilFunc := TI.mk' (by kernel_rfl)
instance : TScal Try.prog 73 := TScal.mk' Try.underlying73 rfl
instance : TI Try.prog 74 1 8 .nilFunc := TI.mk' (by kernel_rfl)
instance : TScal Try.prog 74 := TScal.mk' Try.underlying74 rfl
instance : TI Try.prog 75 1 8 .nilFunc := TI.mk' (by kernel_rfl)
instance : TScal Try.prog 75 := TScal.mk' Try.underlying75 rfl
instance : TI Try.prog 76 1 8 .nilFunc := TI.mk' (by kernel_rfl)
instance : TScal Try.prog 76 := TScal.mk' Try.underlying76 rfl
instance : TI Try.prog 77 1 8 (.int .u64 0) := TI.mk' (by kernel_rfl)
instance : TScal Try.prog 77 := TScal.mk' Try.underlying77 rfl
instance : TInt Try.prog 77 .u64 := ⟨Try.underlying77⟩
instance : TI Try.prog 78 1 8 .nilFunc := TI.mk' (by kernel_rfl)
instance : TScal Try.prog 78 := TScal.mk' Try.underlying78 rfl
instance : TI Try.prog 79 1 8 .nilFunc := TI.mk' (by kernel_rfl)
instance : TScal Try.prog 79 := TScal.mk' Try.underlying79 rfl
instance : TI Try.prog 80 1 8 .nilFunc := TI.mk' (by kernel_rfl)
instance : TScal Try.prog 80 := TScal.mk' Try.underlying80 rfl
instance : TI Try.prog 81 1 8 .nilFunc := TI.mk' (by kernel_rfl)
instance : TScal Try.prog 81 := TScal.mk' Try.underlying81 rfl
instance : TI Try.prog 82 1 8 .nilFunc := TI.mk' (by kernel_rfl)
instance : TScal Try.prog 82 := TScal.mk' Try.underlying82 rfl
instance : TI Try.prog 83 1 8 (.pointer none) := TI.mk' (by kernel_rfl)
instance : TScal Try.prog 83 := TScal.mk' Try.underlying83 rfl
instance : TI Try.prog 85 1 8 .nilFunc := TI.mk' (by kernel_rfl)
instance : TScal Try.prog 85 := TScal.mk' Try.underlying85 rfl
instance : TI Try.prog 86 1 8 .nilFunc := TI.mk' (by kernel_rfl)
instance : TScal Try.prog 86 := TScal.mk' Try.underlying86 rfl
instance : TI Try.prog 87 1 8 (.int .u64 0) := TI.mk' (by kernel_rfl)
instance : TScal Try.prog 87 := TScal.mk' Try.underlying87 rfl
instance : TInt Try.prog 87 .u64 := ⟨Try.underlying87⟩
instance : TI Try.prog 88 1 8 .nilFunc := TI.mk' (by kernel_rfl)
instance : TScal Try.prog 88 := TScal.mk' Try.underlying88 rfl
instance : TI Try.prog 89 1 8 .nilFunc := TI.mk' (by kernel_rfl)
instance : TScal Try.prog 89 := TScal.mk' Try.underlying89 rfl
instance : TI Try.prog 90 1 8 .nilFunc := TI.mk' (by kernel_rfl)
instance : TScal Try.prog 90 := TScal.mk' Try.underlying90 rfl
instance : TI Try.prog 91 1 8 .nilFunc := TI.mk' (by kernel_rfl)
instance : TScal Try.prog 91 := TScal.mk' Try.underlying91 rfl
instance : TI Try.prog 92 1 8 .nilFunc := TI.mk' (by kernel_rfl)
instance : TScal Try.prog 92 := TScal.mk' Try.underlying92 rfl
instance : TI Try.prog 94 1 8 .nilFunc := TI.mk' (by kernel_rfl)
instance : TScal Try.prog 94 := TScal.mk' Try.underlying94 rfl
instance : TI Try.prog 95 1 8 .nilFunc := TI.mk' (by kernel_rfl)
instance : TScal Try.prog 95 := TScal.mk' Try.underlying95 rfl
instance : TI Try.prog 96 1 8 .nilFunc := TI.mk' (by kernel_rfl)
instance : TScal Try.prog 96 := TScal.mk' Try.underlying96 rfl
instance : TI Try.prog 102 1 8 .nilFunc := TI.mk' (by kernel_rfl)
instance : TScal Try.prog 102 := TScal.mk' Try.underlying102 rfl
instance : TI Try.prog 103 1 4 (.int .u32 0) := TI.mk' (by kernel_rfl)
instance : TScal Try.prog 103 := TScal.mk' Try.underlying103 rfl
instance : TInt Try.prog 103 .u32 := ⟨Try.underlying103⟩
instance : TI Try.prog 104 1 1 (.int .u8 0) := TI.mk' (by kernel_rfl)
instance : TScal Try.prog 104 := TScal.mk' Try.underlying104 rfl
instance : TInt Try.prog 104 .u8 := ⟨Try.underlying104⟩
instance : TI Try.prog 105 1 1 (.int .u8 0) := TI.mk' (by kernel_rfl)
instance : TScal Try.prog 105 := TScal.mk' Try.underlying105 rfl
instance : TInt Try.prog 105 .u8 := ⟨Try.underlying105⟩
instance : TI Try.prog 106 1 8 .nilFunc := TI.mk' (by kernel_rfl)
instance : TScal Try.prog 106 := TScal.mk' Try.underlying106 rfl
instance : TI Try.prog 107 1 8 (.pointer none) := TI.mk' (by kernel_rfl)
instance : TScal Try.prog 107 := TScal.mk' Try.underlying107 rfl
instance : TI Try.prog 108 1 4 (.int .i32 0) := TI.mk' (by kernel_rfl)
instance : TScal Try.prog 108 := TScal.mk' Try.underlying108 rfl
instance : TInt Try.prog 108 .i32 := ⟨Try.underlying108⟩
instance : TI Try.prog 109 1 4 (.int .i32 0) := TI.mk' (by kernel_rfl)
instance : TScal Try.prog 109 := TScal.mk' Try.underlying109 rfl
instance : TInt Try.prog 109 .i32 := ⟨Try.underlying109⟩
instance : TI Try.prog 110 11 48 (.agg #[(.int .u64 0), (.int .u64 0), (.int .u32 0), (.int .u8 0), (.int .u8 0), (.int .u8 0), (.int .u8 0), .nilFunc, (.pointer none), (.int .i32 0), (.int .i32 0)]) := TI.mk' (by kernel_rfl)
instance : TAggr Try.prog 110 := TAggr.mk' Try.underlying110 rfl
instance : TFld Try.prog 110 0 0 := TFld.mk' (fl := { name := "Size_", type := 12, offset := 0, embedded := false, tag := "", pkgPath := "", byteOffset := 0 }) Try.underlying110 rfl (inferInstance : TI Try.prog 12 1 8 (.int .u64 0)) (by decide)
instance : TFieldV Try.prog 110 0 12 0 := ⟨_, { name := "Size_", type := 12, offset := 0, embedded := false, tag := "", pkgPath := "", byteOffset := 0 }, Try.underlying110, rfl, rfl, rfl⟩
instance : TFld Try.prog 110 1 1 := TFld.mk' (fl := { name := "PtrBytes", type := 12, offset := 1, embedded := false, tag := "", pkgPath := "", byteOffset := 8 }) Try.underlying110 rfl (inferInstance : TI Try.prog 12 1 8 (.int .u64 0)) (by decide)
instance : TFieldV Try.prog 110 1 12 1 := ⟨_, { name := "PtrBytes", type := 12, offset := 1, embedded := false, tag := "", pkgPath := "", byteOffset := 8 }, Try.underlying110, rfl, rfl, rfl⟩
instance : TFld Try.prog 110 2 2 := TFld.mk' (fl := { name := "Hash", type := 103, offset := 2, embedded := false, tag := "", pkgPath := "", byteOffset := 16 }) Try.underlying110 rfl (inferInstance : TI Try.prog 103 1 4 (.int .u32 0)) (by decide)
instance : TFieldV Try.prog 110 2 103 2 := ⟨_, { name := "Hash", type := 103, offset := 2, embedded := false, tag := "", pkgPath := "", byteOffset := 16 }, Try.underlying110, rfl, rfl, rfl⟩
instance : TFld Try.prog 110 3 3 := TFld.mk' (fl := { name := "TFlag", type := 104, offset := 3, embedded := false, tag := "", pkgPath := "", byteOffset := 20 }) Try.underlying110 rfl (inferInstance : TI Try.prog 104 1 1 (.int .u8 0)) (by decide)
instance : TFieldV Try.prog 110 3 104 3 := ⟨_, { name := "TFlag", type := 104, offset := 3, embedded := false, tag := "", pkgPath := "", byteOffset := 20 }, Try.underlying110, rfl, rfl, rfl⟩
instance : TFld Try.prog 110 4 4 := TFld.mk' (fl := { name := "Align_", type := 5, offset := 4, embedded := false, tag := "", pkgPath := "", byteOffset := 21 }) Try.underlying110 rfl (inferInstance : TI Try.prog 5 1 1 (.int .u8 0)) (by decide)
instance : TFieldV Try.prog 110 4 5 4 := ⟨_, { name := "Align_", type := 5, offset := 4, embedded := false, tag := "", pkgPath := "", byteOffset := 21 }, Try.underlying110, rfl, rfl, rfl⟩
instance : TFld Try.prog 110 5 5 := TFld.mk' (fl := { name := "FieldAlign_", type := 5, offset := 5, embedded := false, tag := "", pkgPath := "", byteOffset := 22 }) Try.underlying110 rfl (inferInstance : TI Try.prog 5 1 1 (.int .u8 0)) (by decide)
instance : TFieldV Try.prog 110 5 5 5 := ⟨_, { name := "FieldAlign_", type := 5, offset := 5, embedded := false, tag := "", pkgPath := "", byteOffset := 22 }, Try.underlying110, rfl, rfl, rfl⟩
instance : TFld Try.prog 110 6 6 := TFld.mk' (fl := { name := "Kind_", type := 105, offset := 6, embedded := false, tag := "", pkgPath := "", byteOffset := 23 }) Try.underlying110 rfl (inferInstance : TI Try.prog 105 1 1 (.int .u8 0)) (by decide)
instance : TFieldV Try.prog 110 6 105 6 := ⟨_, { name := "Kind_", type := 105, offset := 6, embedded := false, tag := "", pkgPath := "", byteOffset := 23 }, Try.underlying110, rfl, rfl, rfl⟩
instance : TFld Try.prog 110 7 7 := TFld.mk' (fl := { name := "Equal", type := 106, offset := 7, embedded := false, tag := "", pkgPath := "", byteOffset := 24 }) Try.underlying110 rfl (inferInstance : TI Try.prog 106 1 8 .nilFunc) (by decide)
instance : TFieldV Try.prog 110 7 106 7 := ⟨_, { name := "Equal", type := 106, offset := 7, embedded := false, tag := "", pkgPath := "", byteOffset := 24 }, Try.underlying110, rfl, rfl, rfl⟩
instance : TFld Try.prog 110 8 8 := TFld.mk' (fl := { name := "GCData", type := 107, offset := 8, embedded := false, tag := "", pkgPath := "", byteOffset := 32 }) Try.underlying110 rfl (inferInstance : TI Try.prog 107 1 8 (.pointer none)) (by decide)
instance : TFieldV Try.prog 110 8 107 8 := ⟨_, { name := "GCData", type := 107, offset := 8, embedded := false, tag := "", pkgPath := "", byteOffset := 32 }, Try.underlying110, rfl, rfl, rfl⟩
instance : TFld Try.prog 110 9 9 := TFld.mk' (fl := { name := "Str", type := 108, offset := 9, embedded := false, tag := "", pkgPath := "", byteOffset := 40 }) Try.underlying110 rfl (inferInstance : TI Try.prog 108 1 4 (.int .i32 0)) (by decide)
instance : TFieldV Try.prog 110 9 108 9 := ⟨_, { name := "Str", type := 108, offset := 9, embedded := false, tag := "", pkgPath := "", byteOffset := 40 }, Try.underlying110, rfl, rfl, rfl⟩
instance : TFld Try.prog 110 10 10 := TFld.mk' (fl := { name := "PtrToThis", type := 109, offset := 10, embedded := false, tag := "", pkgPath := "", byteOffset := 44 }) Try.underlying110 rfl (inferInstance : TI Try.prog 109 1 4 (.int .i32 0)) (by decide)
instance : TFieldV Try.prog 110 10 109 10 := ⟨_, { name := "PtrToThis", type := 109, offset := 10, embedded := false, tag := "", pkgPath := "", byteOffset := 44 }, Try.underlying110, rfl, rfl, rfl⟩
instance : TI Try.prog 111 11 48 (.agg #[(.int .u64 0), (.int .u64 0), (.int .u32 0), (.int .u8 0), (.int .u8 0), (.int .u8 0), (.int .u8 0), .nilFunc, (.pointer none), (.int .i32 0), (.int .i32 0)]) := TI.mk' (by kernel_rfl)
instance : TAggr Try.prog 111 := TAggr.mk' Try.underlying111 rfl
instance : TFld Try.prog 111 0 0 := TFld.mk' (fl := { name := "Size_", type := 12, offset := 0, embedded := false, tag := "", pkgPath := "", byteOffset := 0 }) Try.underlying111 rfl (inferInstance : TI Try.prog 12 1 8 (.int .u64 0)) (by decide)
instance : TFieldV Try.prog 111 0 12 0 := ⟨_, { name := "Size_", type := 12, offset := 0, embedded := false, tag := "", pkgPath := "", byteOffset := 0 }, Try.underlying111, rfl, rfl, rfl⟩
instance : TFld Try.prog 111 1 1 := TFld.mk' (fl := { name := "PtrBytes", type := 12, offset := 1, embedded := false, tag := "", pkgPath := "", byteOffset := 8 }) Try.underlying111 rfl (inferInstance : TI Try.prog 12 1 8 (.int .u64 0)) (by decide)
instance : TFieldV Try.prog 111 1 12 1 := ⟨_, { name := "PtrBytes", type := 12, offset := 1, embedded := false, tag := "", pkgPath := "", byteOffset := 8 }, Try.underlying111, rfl, rfl, rfl⟩
instance : TFld Try.prog 111 2 2 := TFld.mk' (fl := { name := "Hash", type := 103, offset := 2, embedded := false, tag := "", pkgPath := "", byteOffset := 16 }) Try.underlying111 rfl (inferInstance : TI Try.prog 103 1 4 (.int .u32 0)) (by decide)
instance : TFieldV Try.prog 111 2 103 2 := ⟨_, { name := "Hash", type := 103, offset := 2, embedded := false, tag := "", pkgPath := "", byteOffset := 16 }, Try.underlying111, rfl, rfl, rfl⟩
instance : TFld Try.prog 111 3 3 := TFld.mk' (fl := { name := "TFlag", type := 104, offset := 3, embedded := false, tag := "", pkgPath := "", byteOffset := 20 }) Try.underlying111 rfl (inferInstance : TI Try.prog 104 1 1 (.int .u8 0)) (by decide)
instance : TFieldV Try.prog 111 3 104 3 := ⟨_, { name := "TFlag", type := 104, offset := 3, embedded := false, tag := "", pkgPath := "", byteOffset := 20 }, Try.underlying111, rfl, rfl, rfl⟩
instance : TFld Try.prog 111 4 4 := TFld.mk' (fl := { name := "Align_", type := 5, offset := 4, embedded := false, tag := "", pkgPath := "", byteOffset := 21 }) Try.underlying111 rfl (inferInstance : TI Try.prog 5 1 1 (.int .u8 0)) (by decide)
instance : TFieldV Try.prog 111 4 5 4 := ⟨_, { name := "Align_", type := 5, offset := 4, embedded := false, tag := "", pkgPath := "", byteOffset := 21 }, Try.underlying111, rfl, rfl, rfl⟩
instance : TFld Try.prog 111 5 5 := TFld.mk' (fl := { name := "FieldAlign_", type := 5, offset := 5, embedded := false, tag := "", pkgPath := "", byteOffset := 22 }) Try.underlying111 rfl (inferInstance : TI Try.prog 5 1 1 (.int .u8 0)) (by decide)
instance : TFieldV Try.prog 111 5 5 5 := ⟨_, { name := "FieldAlign_", type := 5, offset := 5, embedded := false, tag := "", pkgPath := "", byteOffset := 22 }, Try.underlying111, rfl, rfl, rfl⟩
instance : TFld Try.prog 111 6 6 := TFld.mk' (fl := { name := "Kind_", type := 105, offset := 6, embedded := false, tag := "", pkgPath := "", byteOffset := 23 }) Try.underlying111 rfl (inferInstance : TI Try.prog 105 1 1 (.int .u8 0)) (by decide)
instance : TFieldV Try.prog 111 6 105 6 := ⟨_, { name := "Kind_", type := 105, offset := 6, embedded := false, tag := "", pkgPath := "", byteOffset := 23 }, Try.underlying111, rfl, rfl, rfl⟩
instance : TFld Try.prog 111 7 7 := TFld.mk' (fl := { name := "Equal", type := 106, offset := 7, embedded := false, tag := "", pkgPath := "", byteOffset := 24 }) Try.underlying111 rfl (inferInstance : TI Try.prog 106 1 8 .nilFunc) (by decide)
instance : TFieldV Try.prog 111 7 106 7 := ⟨_, { name := "Equal", type := 106, offset := 7, embedded := false, tag := "", pkgPath := "", byteOffset := 24 }, Try.underlying111, rfl, rfl, rfl⟩
instance : TFld Try.prog 111 8 8 := TFld.mk' (fl := { name := "GCData", type := 107, offset := 8, embedded := false, tag := "", pkgPath := "", byteOffset := 32 }) Try.underlying111 rfl (inferInstance : TI Try.prog 107 1 8 (.pointer none)) (by decide)
instance : TFieldV Try.prog 111 8 107 8 := ⟨_, { name := "GCData", type := 107, offset := 8, embedded := false, tag := "", pkgPath := "", byteOffset := 32 }, Try.underlying111, rfl, rfl, rfl⟩
instance : TFld Try.prog 111 9 9 := TFld.mk' (fl := { name := "Str", type := 108, offset := 9, embedded := false, tag := "", pkgPath := "", byteOffset := 40 }) Try.underlying111 rfl (inferInstance : TI Try.prog 108 1 4 (.int .i32 0)) (by decide)
instance : TFieldV Try.prog 111 9 108 9 := ⟨_, { name := "Str", type := 108, offset := 9, embedded := false, tag := "", pkgPath := "", byteOffset := 40 }, Try.underlying111, rfl, rfl, rfl⟩
instance : TFld Try.prog 111 10 10 := TFld.mk' (fl := { name := "PtrToThis", type := 109, offset := 10, embedded := false, tag := "", pkgPath := "", byteOffset := 44 }) Try.underlying111 rfl (inferInstance : TI Try.prog 109 1 4 (.int .i32 0)) (by decide)
instance : TFieldV Try.prog 111 10 109 10 := ⟨_, { name := "PtrToThis", type := 109, offset := 10, embedded := false, tag := "", pkgPath := "", byteOffset := 44 }, Try.underlying111, rfl, rfl, rfl⟩
instance : TI Try.prog 112 1 8 (.pointer none) := TI.mk' (by kernel_rfl)
instance : TScal Try.prog 112 := TScal.mk' Try.underlying112 rfl
instance : TEq2 Try.prog 37 := TEq2.mk' (f0 := { name := "P", type := 3, offset := 0, embedded := false, tag := "", pkgPath := "", byteOffset := 0 }) (f1 := { name := "Q", type := 3, offset := 1, embedded := false, tag := "", pkgPath := "", byteOffset := 8 }) Try.underlying37 (by decide) (by decide) rfl rfl (inferInstance : TInt Try.prog 3 .i64) (inferInstance : TInt Try.prog 3 .i64) (by kernel_rfl) (by kernel_rfl)
instance : TEq2 Try.prog 38 := TEq2.mk' (f0 := { name := "P", type := 3, offset := 0, embedded := false, tag := "", pkgPath := "", byteOffset := 0 }) (f1 := { name := "Q", type := 3, offset := 1, embedded := false, tag := "", pkgPath := "", byteOffset := 8 }) Try.underlying38 (by decide) (by decide) rfl rfl (inferInstance : TInt Try.prog 3 .i64) (inferInstance : TInt Try.prog 3 .i64) (by kernel_rfl) (by kernel_rfl)
instance : TEq2 Try.prog 61 := TEq2.mk' (f0 := { name := "X", type := 3, offset := 0, embedded := false, tag := "", pkgPath := "", byteOffset := 0 }) (f1 := { name := "Y", type := 3, offset := 1, embedded := false, tag := "", pkgPath := "", byteOffset := 8 }) Try.underlying61 (by decide) (by decide) rfl rfl (inferInstance : TInt Try.prog 3 .i64) (inferInstance : TInt Try.prog 3 .i64) (by kernel_rfl) (by kernel_rfl)
instance : TEq2 Try.prog 62 := TEq2.mk' (f0 := { name := "X", type := 3, offset := 0, embedded := false, tag := "", pkgPath := "", byteOffset := 0 }) (f1 := { name := "Y", type := 3, offset := 1, embedded := false, tag := "", pkgPath := "", byteOffset := 8 }) Try.underlying62 (by decide) (by decide) rfl rfl (inferInstance : TInt Try.prog 3 .i64) (inferInstance : TInt Try.prog 3 .i64) (by kernel_rfl) (by kernel_rfl)
instance : TBuild Try.prog 7 #[(.int .i64 0), (.int .i64 0), (.bool false), (.int .u8 0)] (fun i => (#[(0, 1), (1, 1), (2, 1), (3, 1)] : Array (Nat × Nat))[i]?) := TBuild.struct (places := #[(0, 1), (1, 1), (2, 1), (3, 1)]) Try.underlying7 (inferInstance : TI Try.prog 7 4 24 (.agg #[(.int .i64 0), (.int .i64 0), (.bool false), (.int .u8 0)])) (by kernel_rfl) (by kernel_rfl)
instance : TBuild Try.prog 8 #[(.int .i64 0), (.int .i64 0), (.bool false), (.int .u8 0)] (fun i => (#[(0, 1), (1, 1), (2, 1), (3, 1)] : Array (Nat × Nat))[i]?) := TBuild.struct (places := #[(0, 1), (1, 1), (2, 1), (3, 1)]) Try.underlying8 (inferInstance : TI Try.prog 8 4 24 (.agg #[(.int .i64 0), (.int .i64 0), (.bool false), (.int .u8 0)])) (by kernel_rfl) (by kernel_rfl)
instance : TBuild Try.prog 18 #[(.pointer none)] (fun i => (#[(0, 1)] : Array (Nat × Nat))[i]?) := TBuild.struct (places := #[(0, 1)]) Try.underlying18 (inferInstance : TI Try.prog 18 1 8 (.agg #[(.pointer none)])) (by kernel_rfl) (by kernel_rfl)
instance : TBuild Try.prog 19 #[(.pointer none)] (fun i => (#[(0, 1)] : Array (Nat × Nat))[i]?) := TBuild.struct (places := #[(0, 1)]) Try.underlying19 (inferInstance : TI Try.prog 19 1 8 (.agg #[(.pointer none)])) (by kernel_rfl) (by kernel_rfl)
instance : TBuild Try.prog 23 #[(.slice none 0 0), (.slice none 0 0)] (fun i => (#[(0, 1), (1, 1)] : Array (Nat × Nat))[i]?) := TBuild.struct (places := #[(0, 1), (1, 1)]) Try.underlying23 (inferInstance : TI Try.prog 23 2 48 (.agg #[(.slice none 0 0), (.slice none 0 0)])) (by kernel_rfl) (by kernel_rfl)
instance : TBuild Try.prog 24 #[(.slice none 0 0), (.slice none 0 0)] (fun i => (#[(0, 1), (1, 1)] : Array (Nat × Nat))[i]?) := TBuild.struct (places := #[(0, 1), (1, 1)]) Try.underlying24 (inferInstance : TI Try.prog 24 2 48 (.agg #[(.slice none 0 0), (.slice none 0 0)])) (by kernel_rfl) (by kernel_rfl)
instance : TBuild Try.prog 37 #[(.int .i64 0), (.int .i64 0)] (fun i => (#[(0, 1), (1, 1)] : Array (Nat × Nat))[i]?) := TBuild.struct (places := #[(0, 1), (1, 1)]) Try.underlying37 (inferInstance : TI Try.prog 37 2 16 (.agg #[(.int .i64 0), (.int .i64 0)])) (by kernel_rfl) (by kernel_rfl)
instance : TBuild Try.prog 38 #[(.int .i64 0), (.int .i64 0)] (fun i => (#[(0, 1), (1, 1)] : Array (Nat × Nat))[i]?) := TBuild.struct (places := #[(0, 1), (1, 1)]) Try.underlying38 (inferInstance : TI Try.prog 38 2 16 (.agg #[(.int .i64 0), (.int .i64 0)])) (by kernel_rfl) (by kernel_rfl)
instance : TBuild Try.prog 41 #[(.int .i64 0), (.int .i64 0), (.slice none 0 0)] (fun i => (#[(0, 2), (2, 1)] : Array (Nat × Nat))[i]?) := TBuild.struct (places := #[(0, 2), (2, 1)]) Try.underlying41 (inferInstance : TI Try.prog 41 3 40 (.agg #[(.int .i64 0), (.int .i64 0), (.slice none 0 0)])) (by kernel_rfl) (by kernel_rfl)
instance : TBuild Try.prog 42 #[(.int .i64 0), (.int .i64 0), (.slice none 0 0)] (fun i => (#[(0, 2), (2, 1)] : Array (Nat × Nat))[i]?) := TBuild.struct (places := #[(0, 2), (2, 1)]) Try.underlying42 (inferInstance : TI Try.prog 42 3 40 (.agg #[(.int .i64 0), (.int .i64 0), (.slice none 0 0)])) (by kernel_rfl) (by kernel_rfl)
instance : TBuild Try.prog 49 #[(.slice none 0 0), (.slice none 0 0), (.bool false)] (fun i => (#[(0, 1), (1, 1), (2, 1)] : Array (Nat × Nat))[i]?) := TBuild.struct (places := #[(0, 1), (1, 1), (2, 1)]) Try.underlying49 (inferInstance : TI Try.prog 49 3 56 (.agg #[(.slice none 0 0), (.slice none 0 0), (.bool false)])) (by kernel_rfl) (by kernel_rfl)
instance : TBuild Try.prog 50 #[(.slice none 0 0), (.slice none 0 0), (.bool false)] (fun i => (#[(0, 1), (1, 1), (2, 1)] : Array (Nat × Nat))[i]?) := TBuild.struct (places := #[(0, 1), (1, 1), (2, 1)]) Try.underlying50 (inferInstance : TI Try.prog 50 3 56 (.agg #[(.slice none 0 0), (.slice none 0 0), (.bool false)])) (by kernel_rfl) (by kernel_rfl)
instance : TBuild Try.prog 54 #[(.slice none 0 0), (.slice none 0 0), (.bool false)] (fun i => (#[(0, 1), (1, 1), (2, 1)] : Array (Nat × Nat))[i]?) := TBuild.struct (places := #[(0, 1), (1, 1), (2, 1)]) Try.underlying54 (inferInstance : TI Try.prog 54 3 56 (.agg #[(.slice none 0 0), (.slice none 0 0), (.bool false)])) (by kernel_rfl) (by kernel_rfl)
instance : TBuild Try.prog 55 #[(.slice none 0 0), (.slice none 0 0), (.bool false)] (fun i => (#[(0, 1), (1, 1), (2, 1)] : Array (Nat × Nat))[i]?) := TBuild.struct (places := #[(0, 1), (1, 1), (2, 1)]) Try.underlying55 (inferInstance : TI Try.prog 55 3 56 (.agg #[(.slice none 0 0), (.slice none 0 0), (.bool false)])) (by kernel_rfl) (by kernel_rfl)
instance : TBuild Try.prog 61 #[(.int .i64 0), (.int .i64 0)] (fun i => (#[(0, 1), (1, 1)] : Array (Nat × Nat))[i]?) := TBuild.struct (places := #[(0, 1), (1, 1)]) Try.underlying61 (inferInstance : TI Try.prog 61 2 16 (.agg #[(.int .i64 0), (.int .i64 0)])) (by kernel_rfl) (by kernel_rfl)
instance : TBuild Try.prog 62 #[(.int .i64 0), (.int .i64 0)] (fun i => (#[(0, 1), (1, 1)] : Array (Nat × Nat))[i]?) := TBuild.struct (places := #[(0, 1), (1, 1)]) Try.underlying62 (inferInstance : TI Try.prog 62 2 16 (.agg #[(.int .i64 0), (.int .i64 0)])) (by kernel_rfl) (by kernel_rfl)
instance : TBuild Try.prog 69 #[(.int .i64 0), (.slice none 0 0)] (fun i => (#[(0, 1), (1, 1)] : Array (Nat × Nat))[i]?) := TBuild.struct (places := #[(0, 1), (1, 1)]) Try.underlying69 (inferInstance : TI Try.prog 69 2 32 (.agg #[(.int .i64 0), (.slice none 0 0)])) (by kernel_rfl) (by kernel_rfl)
instance : TBuild Try.prog 70 #[(.int .i64 0), (.slice none 0 0)] (fun i => (#[(0, 1), (1, 1)] : Array (Nat × Nat))[i]?) := TBuild.struct (places := #[(0, 1), (1, 1)]) Try.underlying70 (inferInstance : TI Try.prog 70 2 32 (.agg #[(.int .i64 0), (.slice none 0 0)])) (by kernel_rfl) (by kernel_rfl)
instance : TBuild Try.prog 110 #[(.int .u64 0), (.int .u64 0), (.int .u32 0), (.int .u8 0), (.int .u8 0), (.int .u8 0), (.int .u8 0), .nilFunc, (.pointer none), (.int .i32 0), (.int .i32 0)] (fun i => (#[(0, 1), (1, 1), (2, 1), (3, 1), (4, 1), (5, 1), (6, 1), (7, 1), (8, 1), (9, 1), (10, 1)] : Array (Nat × Nat))[i]?) := TBuild.struct (places := #[(0, 1), (1, 1), (2, 1), (3, 1), (4, 1), (5, 1), (6, 1), (7, 1), (8, 1), (9, 1), (10, 1)]) Try.underlying110 (inferInstance : TI Try.prog 110 11 48 (.agg #[(.int .u64 0), (.int .u64 0), (.int .u32 0), (.int .u8 0), (.int .u8 0), (.int .u8 0), (.int .u8 0), .nilFunc, (.pointer none), (.int .i32 0), (.int .i32 0)])) (by kernel_rfl) (by kernel_rfl)
instance : TBuild Try.prog 111 #[(.int .u64 0), (.int .u64 0), (.int .u32 0), (.int .u8 0), (.int .u8 0), (.int .u8 0), (.int .u8 0), .nilFunc, (.pointer none), (.int .i32 0), (.int .i32 0)] (fun i => (#[(0, 1), (1, 1), (2, 1), (3, 1), (4, 1), (5, 1), (6, 1), (7, 1), (8, 1), (9, 1), (10, 1)] : Array (Nat × Nat))[i]?) := TBuild.struct (places := #[(0, 1), (1, 1), (2, 1), (3, 1), (4, 1), (5, 1), (6, 1), (7, 1), (8, 1), (9, 1), (10, 1)]) Try.underlying111 (inferInstance : TI Try.prog 111 11 48 (.agg #[(.int .u64 0), (.int .u64 0), (.int .u32 0), (.int .u8 0), (.int .u8 0), (.int .u8 0), (.int .u8 0), .nilFunc, (.pointer none), (.int .i32 0), (.int .i32 0)])) (by kernel_rfl) (by kernel_rfl)
instance : Body Try.prog 3 := Body.mk' Try.func3 (by kernel_rfl) rfl   -- penumbra/penumbralaw19.BoundKeeps
instance : Body Try.prog 4 := Body.mk' Try.func4 (by kernel_rfl) rfl   -- penumbra/penumbralaw19.BoundTells
instance : Body Try.prog 5 := Body.mk' Try.func5 (by kernel_rfl) rfl   -- penumbra/penumbralaw19.alive
instance : Body Try.prog 6 := Body.mk' Try.func6 (by kernel_rfl) rfl   -- penumbra/penumbralaw19.copied
instance : Body Try.prog 7 := Body.mk' Try.func7 (by kernel_rfl) rfl   -- penumbra/bound.Run
instance : Body Try.prog 8 := Body.mk' Try.func8 (by kernel_rfl) rfl   -- penumbra/penumbraref19.Run
instance : Body Try.prog 9 := Body.mk' Try.func9 (by kernel_rfl) rfl   -- penumbra/penumbraref19.SameInts
instance : Body Try.prog 10 := Body.mk' Try.func10 (by kernel_rfl) rfl   -- penumbra/bound.Wide
instance : Body Try.prog 11 := Body.mk' Try.func11 (by kernel_rfl) rfl   -- penumbra/penumbraref19.Wide
instance : Body Try.prog 12 := Body.mk' Try.func12 (by kernel_rfl) rfl   -- penumbra/bound.Certain
instance : Body Try.prog 13 := Body.mk' Try.func13 (by kernel_rfl) rfl   -- penumbra/penumbraref19.Certain
instance : Body Try.prog 14 := Body.mk' Try.func14 (by kernel_rfl) rfl   -- penumbra/bound.Width
instance : Body Try.prog 15 := Body.mk' Try.func15 (by kernel_rfl) rfl   -- penumbra/penumbraref19.Width
instance : Body Try.prog 16 := Body.mk' Try.func16 (by kernel_rfl) rfl   -- penumbra/bound.check
instance : Body Try.prog 17 := Body.mk' Try.func17 (by kernel_rfl) rfl   -- penumbra/bound.drawn
instance : Body Try.prog 18 := Body.mk' Try.func18 (by kernel_rfl) rfl   -- (*penumbra/bound.box).sweep
instance : Body Try.prog 19 := Body.mk' Try.func19 (by kernel_rfl) rfl   -- penumbra/penumbraref19.Check
instance : Body Try.prog 20 := Body.mk' Try.func20 (by kernel_rfl) rfl   -- penumbra/penumbraref06.Line
instance : Body Try.prog 21 := Body.mk' Try.func21 (by kernel_rfl) rfl   -- (*penumbra/penumbraref19.state).sweep
instance : Body Try.prog 22 := Body.mk' Try.func22 (by kernel_rfl) rfl   -- penumbra/bound.level
instance : Body Try.prog 23 := Body.mk' Try.func23 (by kernel_rfl) rfl   -- penumbra/dir.Bins
instance : Body Try.prog 24 := Body.mk' Try.func24 (by kernel_rfl) rfl   -- penumbra/cx.Whole
instance : Body Try.prog 25 := Body.mk' Try.func25 (by kernel_rfl) rfl   -- penumbra/dir.Line
instance : Body Try.prog 26 := Body.mk' Try.func26 (by kernel_rfl) rfl   -- (*penumbra/bound.box).through
instance : Body Try.prog 27 := Body.mk' Try.func27 (by kernel_rfl) rfl   -- penumbra/penumbraref19.levels
instance : Body Try.prog 28 := Body.mk' Try.func28 (by kernel_rfl) rfl   -- penumbra/penumbraref06.Bins
instance : Body Try.prog 29 := Body.mk' Try.func29 (by kernel_rfl) rfl   -- penumbra/penumbraref19.Bin
instance : Body Try.prog 30 := Body.mk' Try.func30 (by kernel_rfl) rfl   -- penumbra/penumbraref06.Start
instance : Body Try.prog 31 := Body.mk' Try.func31 (by kernel_rfl) rfl   -- (*penumbra/penumbraref19.state).at
instance : Body Try.prog 32 := Body.mk' Try.func32 (by kernel_rfl) rfl   -- penumbra/dir.Check
instance : Body Try.prog 33 := Body.mk' Try.func33 (by kernel_rfl) rfl   -- penumbra/dir.abs
instance : Body Try.prog 34 := Body.mk' Try.func34 (by kernel_rfl) rfl   -- penumbra/cx.Whole$1
instance : Body Try.prog 35 := Body.mk' Try.func35 (by kernel_rfl) rfl   -- math.Abs
instance : Body Try.prog 36 := Body.mk' Try.func36 (by kernel_rfl) rfl   -- math.Floor
instance : Body Try.prog 37 := Body.mk' Try.func37 (by kernel_rfl) rfl   -- math.Signbit
instance : Body Try.prog 38 := Body.mk' Try.func38 (by kernel_rfl) rfl   -- penumbra/dir.index
instance : Body Try.prog 39 := Body.mk' Try.func39 (by kernel_rfl) rfl   -- (*penumbra/bound.box).draw
instance : Body Try.prog 40 := Body.mk' Try.func40 (by kernel_rfl) rfl   -- penumbra/penumbraref06.Check
instance : Body Try.prog 41 := Body.mk' Try.func41 (by kernel_rfl) rfl   -- penumbra/penumbraref01.Whole
instance : Body Try.prog 42 := Body.mk' Try.func42 (by kernel_rfl) rfl   -- penumbra/dir.Normal
instance : Body Try.prog 46 := Body.mk' Try.func46 (by kernel_rfl) rfl   -- math.floor
instance : Body Try.prog 47 := Body.mk' Try.func47 (by kernel_rfl) rfl   -- penumbra/penumbraref06.size
instance : Body Try.prog 48 := Body.mk' Try.func48 (by kernel_rfl) rfl   -- penumbra/penumbraref06.divisor
instance : Body Try.prog 49 := Body.mk' Try.func49 (by kernel_rfl) rfl   -- math.IsInf
instance : Body Try.prog 50 := Body.mk' Try.func50 (by kernel_rfl) rfl   -- penumbra/penumbraref01.whole
instance : Body Try.prog 51 := Body.mk' Try.func51 (by kernel_rfl) rfl   -- penumbra/dir.divisor
instance : Body Try.prog 52 := Body.mk' Try.func52 (by kernel_rfl) rfl   -- math.IsNaN
instance : Body Try.prog 53 := Body.mk' Try.func53 (by kernel_rfl) rfl   -- math.Modf
instance : Body Try.prog 54 := Body.mk' Try.func54 (by kernel_rfl) rfl   -- math.Trunc
instance : Body Try.prog 55 := Body.mk' Try.func55 (by kernel_rfl) rfl   -- math.Copysign
instance : Body Try.prog 57 := Body.mk' Try.func57 (by kernel_rfl) rfl   -- math.trunc
end Go.Proofs.Ytghmkheoopakaaa
