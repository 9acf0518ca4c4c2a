/- The seat's types, fields and functions, as the pen's rules ask for them. Written by a program of this repo (facts.py). -/
import Derived.Test.YtabnokfanhaihaaProg
import Derived.Test.YtabnokfanhaihaaPenE
set_option maxRecDepth 100000
namespace Go.Proofs.Ytabnokfanhaihaa
open Go.Pen

instance : TI Try.prog 1 1 8 .nilFunc := TI.mk' (by kernel_rfl)
instance : TScal Try.prog 1 := TScal.mk' Try.underlying1 rfl
instance : TI Try.prog 2 1 8 (.int .i64 0) := TI.mk' (by kernel_rfl)
instance : TScal Try.prog 2 := TScal.mk' Try.underlying2 rfl
instance : TInt Try.prog 2 .i64 := ⟨Try.underlying2⟩
instance : TI Try.prog 3 1 8 (.int .i64 0) := TI.mk' (by kernel_rfl)
instance : TScal Try.prog 3 := TScal.mk' Try.underlying3 rfl
instance : TInt Try.prog 3 .i64 := ⟨Try.underlying3⟩
instance : TI Try.prog 4 1 1 (.bool false) := TI.mk' (by kernel_rfl)
instance : TScal Try.prog 4 := TScal.mk' Try.underlying4 rfl
instance : TBool Try.prog 4 := ⟨Try.underlying4⟩
instance : TI Try.prog 5 1 1 (.int .u8 0) := TI.mk' (by kernel_rfl)
instance : TScal Try.prog 5 := TScal.mk' Try.underlying5 rfl
instance : TInt Try.prog 5 .u8 := ⟨Try.underlying5⟩
instance : TI Try.prog 6 1 1 (.int .u8 0) := TI.mk' (by kernel_rfl)
instance : TScal Try.prog 6 := TScal.mk' Try.underlying6 rfl
instance : TInt Try.prog 6 .u8 := ⟨Try.underlying6⟩
instance : TI Try.prog 7 4 24 (.agg #[(.int .i64 0), (.int .i64 0), (.bool false), (.int .u8 0)]) := TI.mk' (by kernel_rfl)
instance : TAggr Try.prog 7 := TAggr.mk' Try.underlying7 rfl
instance : TFld Try.prog 7 0 0 := TFld.mk' (fl := { name := "x", type := 2, offset := 0, embedded := false, tag := "", pkgPath := "runtime", byteOffset := 0 }) Try.underlying7 rfl (inferInstance : TI Try.prog 2 1 8 (.int .i64 0)) (by decide)
instance : TFieldV Try.prog 7 0 2 0 := ⟨_, { name := "x", type := 2, offset := 0, embedded := false, tag := "", pkgPath := "runtime", byteOffset := 0 }, Try.underlying7, rfl, rfl, rfl⟩
instance : TFld Try.prog 7 1 1 := TFld.mk' (fl := { name := "y", type := 3, offset := 1, embedded := false, tag := "", pkgPath := "runtime", byteOffset := 8 }) Try.underlying7 rfl (inferInstance : TI Try.prog 3 1 8 (.int .i64 0)) (by decide)
instance : TFieldV Try.prog 7 1 3 1 := ⟨_, { name := "y", type := 3, offset := 1, embedded := false, tag := "", pkgPath := "runtime", byteOffset := 8 }, Try.underlying7, rfl, rfl, rfl⟩
instance : TFld Try.prog 7 2 2 := TFld.mk' (fl := { name := "signed", type := 4, offset := 2, embedded := false, tag := "", pkgPath := "runtime", byteOffset := 16 }) Try.underlying7 rfl (inferInstance : TI Try.prog 4 1 1 (.bool false)) (by decide)
instance : TFieldV Try.prog 7 2 4 2 := ⟨_, { name := "signed", type := 4, offset := 2, embedded := false, tag := "", pkgPath := "runtime", byteOffset := 16 }, Try.underlying7, rfl, rfl, rfl⟩
instance : TFld Try.prog 7 3 3 := TFld.mk' (fl := { name := "code", type := 6, offset := 3, embedded := false, tag := "", pkgPath := "runtime", byteOffset := 17 }) Try.underlying7 rfl (inferInstance : TI Try.prog 6 1 1 (.int .u8 0)) (by decide)
instance : TFieldV Try.prog 7 3 6 3 := ⟨_, { name := "code", type := 6, offset := 3, embedded := false, tag := "", pkgPath := "runtime", byteOffset := 17 }, Try.underlying7, rfl, rfl, rfl⟩
instance : TI Try.prog 8 4 24 (.agg #[(.int .i64 0), (.int .i64 0), (.bool false), (.int .u8 0)]) := TI.mk' (by kernel_rfl)
instance : TAggr Try.prog 8 := TAggr.mk' Try.underlying8 rfl
instance : TFld Try.prog 8 0 0 := TFld.mk' (fl := { name := "x", type := 2, offset := 0, embedded := false, tag := "", pkgPath := "runtime", byteOffset := 0 }) Try.underlying8 rfl (inferInstance : TI Try.prog 2 1 8 (.int .i64 0)) (by decide)
instance : TFieldV Try.prog 8 0 2 0 := ⟨_, { name := "x", type := 2, offset := 0, embedded := false, tag := "", pkgPath := "runtime", byteOffset := 0 }, Try.underlying8, rfl, rfl, rfl⟩
instance : TFld Try.prog 8 1 1 := TFld.mk' (fl := { name := "y", type := 3, offset := 1, embedded := false, tag := "", pkgPath := "runtime", byteOffset := 8 }) Try.underlying8 rfl (inferInstance : TI Try.prog 3 1 8 (.int .i64 0)) (by decide)
instance : TFieldV Try.prog 8 1 3 1 := ⟨_, { name := "y", type := 3, offset := 1, embedded := false, tag := "", pkgPath := "runtime", byteOffset := 8 }, Try.underlying8, rfl, rfl, rfl⟩
instance : TFld Try.prog 8 2 2 := TFld.mk' (fl := { name := "signed", type := 4, offset := 2, embedded := false, tag := "", pkgPath := "runtime", byteOffset := 16 }) Try.underlying8 rfl (inferInstance : TI Try.prog 4 1 1 (.bool false)) (by decide)
instance : TFieldV Try.prog 8 2 4 2 := ⟨_, { name := "signed", type := 4, offset := 2, embedded := false, tag := "", pkgPath := "runtime", byteOffset := 16 }, Try.underlying8, rfl, rfl, rfl⟩
instance : TFld Try.prog 8 3 3 := TFld.mk' (fl := { name := "code", type := 6, offset := 3, embedded := false, tag := "", pkgPath := "runtime", byteOffset := 17 }) Try.underlying8 rfl (inferInstance : TI Try.prog 6 1 1 (.int .u8 0)) (by decide)
instance : TFieldV Try.prog 8 3 6 3 := ⟨_, { name := "code", type := 6, offset := 3, embedded := false, tag := "", pkgPath := "runtime", byteOffset := 17 }, Try.underlying8, rfl, rfl, rfl⟩
instance : TI Try.prog 12 1 8 (.int .u64 0) := TI.mk' (by kernel_rfl)
instance : TScal Try.prog 12 := TScal.mk' Try.underlying12 rfl
instance : TInt Try.prog 12 .u64 := ⟨Try.underlying12⟩
instance : TI Try.prog 15 1 8 (.pointer none) := TI.mk' (by kernel_rfl)
instance : TScal Try.prog 15 := TScal.mk' Try.underlying15 rfl
instance : TI Try.prog 16 1 8 (.pointer none) := TI.mk' (by kernel_rfl)
instance : TScal Try.prog 16 := TScal.mk' Try.underlying16 rfl
instance : TI Try.prog 17 1 8 (.pointer none) := TI.mk' (by kernel_rfl)
instance : TScal Try.prog 17 := TScal.mk' Try.underlying17 rfl
instance : TI Try.prog 18 1 8 (.agg #[(.pointer none)]) := TI.mk' (by kernel_rfl)
instance : TAggr Try.prog 18 := TAggr.mk' Try.underlying18 rfl
instance : TFld Try.prog 18 0 0 := TFld.mk' (fl := { name := "typ", type := 17, offset := 0, embedded := false, tag := "", pkgPath := "internal/runtime/maps", byteOffset := 0 }) Try.underlying18 rfl (inferInstance : TI Try.prog 17 1 8 (.pointer none)) (by decide)
instance : TFieldV Try.prog 18 0 17 0 := ⟨_, { name := "typ", type := 17, offset := 0, embedded := false, tag := "", pkgPath := "internal/runtime/maps", byteOffset := 0 }, Try.underlying18, rfl, rfl, rfl⟩
instance : TI Try.prog 19 1 8 (.agg #[(.pointer none)]) := TI.mk' (by kernel_rfl)
instance : TAggr Try.prog 19 := TAggr.mk' Try.underlying19 rfl
instance : TFld Try.prog 19 0 0 := TFld.mk' (fl := { name := "typ", type := 17, offset := 0, embedded := false, tag := "", pkgPath := "internal/runtime/maps", byteOffset := 0 }) Try.underlying19 rfl (inferInstance : TI Try.prog 17 1 8 (.pointer none)) (by decide)
instance : TFieldV Try.prog 19 0 17 0 := ⟨_, { name := "typ", type := 17, offset := 0, embedded := false, tag := "", pkgPath := "internal/runtime/maps", byteOffset := 0 }, Try.underlying19, rfl, rfl, rfl⟩
instance : TI Try.prog 20 1 16 .nilIface := TI.mk' (by kernel_rfl)
instance : TScal Try.prog 20 := TScal.mk' Try.underlying20 rfl
instance : TI Try.prog 21 1 4 (.int .i32 0) := TI.mk' (by kernel_rfl)
instance : TScal Try.prog 21 := TScal.mk' Try.underlying21 rfl
instance : TInt Try.prog 21 .i32 := ⟨Try.underlying21⟩
instance : TI Try.prog 22 1 24 (.slice none 0 0) := TI.mk' (by kernel_rfl)
instance : TScal Try.prog 22 := TScal.mk' Try.underlying22 rfl
instance : TSlice Try.prog 22 30 := ⟨Try.underlying22⟩
instance : TI Try.prog 23 1 8 .nilFunc := TI.mk' (by kernel_rfl)
instance : TScal Try.prog 23 := TScal.mk' Try.underlying23 rfl
instance : TI Try.prog 24 1 8 (.int .i64 0) := TI.mk' (by kernel_rfl)
instance : TScal Try.prog 24 := TScal.mk' Try.underlying24 rfl
instance : TInt Try.prog 24 .i64 := ⟨Try.underlying24⟩
instance : TI Try.prog 26 1 8 .nilFunc := TI.mk' (by kernel_rfl)
instance : TScal Try.prog 26 := TScal.mk' Try.underlying26 rfl
instance : TI Try.prog 27 1 8 .nilFunc := TI.mk' (by kernel_rfl)
instance : TScal Try.prog 27 := TScal.mk' Try.underlying27 rfl
instance : TI Try.prog 28 1 8 .nilFunc := TI.mk' (by kernel_rfl)
instance : TScal Try.prog 28 := TScal.mk' Try.underlying28 rfl
instance : TI Try.prog 29 2 16 (.agg #[(.int .i64 0), (.int .i64 0)]) := TI.mk' (by kernel_rfl)
instance : TAggr Try.prog 29 := TAggr.mk' Try.underlying29 rfl
instance : TFld Try.prog 29 0 0 := TFld.mk' (fl := { name := "P", type := 3, offset := 0, embedded := false, tag := "", pkgPath := "", byteOffset := 0 }) Try.underlying29 rfl (inferInstance : TI Try.prog 3 1 8 (.int .i64 0)) (by decide)
instance : TFieldV Try.prog 29 0 3 0 := ⟨_, { name := "P", type := 3, offset := 0, embedded := false, tag := "", pkgPath := "", byteOffset := 0 }, Try.underlying29, rfl, rfl, rfl⟩
instance : TFld Try.prog 29 1 1 := TFld.mk' (fl := { name := "Q", type := 3, offset := 1, embedded := false, tag := "", pkgPath := "", byteOffset := 8 }) Try.underlying29 rfl (inferInstance : TI Try.prog 3 1 8 (.int .i64 0)) (by decide)
instance : TFieldV Try.prog 29 1 3 1 := ⟨_, { name := "Q", type := 3, offset := 1, embedded := false, tag := "", pkgPath := "", byteOffset := 8 }, Try.underlying29, rfl, rfl, rfl⟩
instance : TI Try.prog 30 2 16 (.agg #[(.int .i64 0), (.int .i64 0)]) := TI.mk' (by kernel_rfl)
instance : TAggr Try.prog 30 := TAggr.mk' Try.underlying30 rfl
instance : TFld Try.prog 30 0 0 := TFld.mk' (fl := { name := "P", type := 3, offset := 0, embedded := false, tag := "", pkgPath := "", byteOffset := 0 }) Try.underlying30 rfl (inferInstance : TI Try.prog 3 1 8 (.int .i64 0)) (by decide)
instance : TFieldV Try.prog 30 0 3 0 := ⟨_, { name := "P", type := 3, offset := 0, embedded := false, tag := "", pkgPath := "", byteOffset := 0 }, Try.underlying30, rfl, rfl, rfl⟩
instance : TFld Try.prog 30 1 1 := TFld.mk' (fl := { name := "Q", type := 3, offset := 1, embedded := false, tag := "", pkgPath := "", byteOffset := 8 }) Try.underlying30 rfl (inferInstance : TI Try.prog 3 1 8 (.int .i64 0)) (by decide)
instance : TFieldV Try.prog 30 1 3 1 := ⟨_, { name := "Q", type := 3, offset := 1, embedded := false, tag := "", pkgPath := "", byteOffset := 8 }, Try.underlying30, rfl, rfl, rfl⟩
instance : TI Try.prog 32 1 8 .nilFunc := TI.mk' (by kernel_rfl)
instance : TScal Try.prog 32 := TScal.mk' Try.underlying32 rfl
instance : TI Try.prog 33 1 8 .nilFunc := TI.mk' (by kernel_rfl)
instance : TScal Try.prog 33 := TScal.mk' Try.underlying33 rfl
instance : TI Try.prog 34 1 8 .nilFunc := TI.mk' (by kernel_rfl)
instance : TScal Try.prog 34 := TScal.mk' Try.underlying34 rfl
instance : TI Try.prog 35 1 8 .nilFunc := TI.mk' (by kernel_rfl)
instance : TScal Try.prog 35 := TScal.mk' Try.underlying35 rfl
instance : TI Try.prog 36 1 8 .nilFunc := TI.mk' (by kernel_rfl)
instance : TScal Try.prog 36 := TScal.mk' Try.underlying36 rfl
instance : TI Try.prog 37 1 8 .nilFunc := TI.mk' (by kernel_rfl)
instance : TScal Try.prog 37 := TScal.mk' Try.underlying37 rfl
instance : TI Try.prog 39 1 8 .nilFunc := TI.mk' (by kernel_rfl)
instance : TScal Try.prog 39 := TScal.mk' Try.underlying39 rfl
instance : TI Try.prog 40 1 8 (.map none) := TI.mk' (by kernel_rfl)
instance : TScal Try.prog 40 := TScal.mk' Try.underlying40 rfl
instance : TI Try.prog 41 1 24 (.slice none 0 0) := TI.mk' (by kernel_rfl)
instance : TScal Try.prog 41 := TScal.mk' Try.underlying41 rfl
instance : TSlice Try.prog 41 46 := ⟨Try.underlying41⟩
instance : TI Try.prog 43 1 8 .nilFunc := TI.mk' (by kernel_rfl)
instance : TScal Try.prog 43 := TScal.mk' Try.underlying43 rfl
instance : TI Try.prog 44 1 8 .nilFunc := TI.mk' (by kernel_rfl)
instance : TScal Try.prog 44 := TScal.mk' Try.underlying44 rfl
instance : TI Try.prog 45 2 16 (.agg #[(.int .i64 0), (.int .i64 0)]) := TI.mk' (by kernel_rfl)
instance : TAggr Try.prog 45 := TAggr.mk' Try.underlying45 rfl
instance : TFld Try.prog 45 0 0 := TFld.mk' (fl := { name := "X", type := 3, offset := 0, embedded := false, tag := "", pkgPath := "", byteOffset := 0 }) Try.underlying45 rfl (inferInstance : TI Try.prog 3 1 8 (.int .i64 0)) (by decide)
instance : TFieldV Try.prog 45 0 3 0 := ⟨_, { name := "X", type := 3, offset := 0, embedded := false, tag := "", pkgPath := "", byteOffset := 0 }, Try.underlying45, rfl, rfl, rfl⟩
instance : TFld Try.prog 45 1 1 := TFld.mk' (fl := { name := "Y", type := 3, offset := 1, embedded := false, tag := "", pkgPath := "", byteOffset := 8 }) Try.underlying45 rfl (inferInstance : TI Try.prog 3 1 8 (.int .i64 0)) (by decide)
instance : TFieldV Try.prog 45 1 3 1 := ⟨_, { name := "Y", type := 3, offset := 1, embedded := false, tag := "", pkgPath := "", byteOffset := 8 }, Try.underlying45, rfl, rfl, rfl⟩
instance : TI Try.prog 46 2 16 (.agg #[(.int .i64 0), (.int .i64 0)]) := TI.mk' (by kernel_rfl)
instance : TAggr Try.prog 46 := TAggr.mk' Try.underlying46 rfl
instance : TFld Try.prog 46 0 0 := TFld.mk' (fl := { name := "X", type := 3, offset := 0, embedded := false, tag := "", pkgPath := "", byteOffset := 0 }) Try.underlying46 rfl (inferInstance : TI Try.prog 3 1 8 (.int .i64 0)) (by decide)
instance : TFieldV Try.prog 46 0 3 0 := ⟨_, { name := "X", type := 3, offset := 0, embedded := false, tag := "", pkgPath := "", byteOffset := 0 }, Try.underlying46, rfl, rfl, rfl⟩
instance : TFld Try.prog 46 1 1 := TFld.mk' (fl := { name := "Y", type := 3, offset := 1, embedded := false, tag := "", pkgPath := "", byteOffset := 8 }) Try.underlying46 rfl (inferInstance : TI Try.prog 3 1 8 (.int .i64 0)) (by decide)
instance : TFieldV Try.prog 46 1 3 1 := ⟨_, { name := "Y", type := 3, offset := 1, embedded := false, tag := "", pkgPath := "", byteOffset := 8 }, Try.underlying46, rfl, rfl, rfl⟩
instance : TI Try.prog 47 1 8 .nilFunc := TI.mk' (by kernel_rfl)
instance : TScal Try.prog 47 := TScal.mk' Try.underlying47 rfl
instance : TI Try.prog 49 1 8 .nilFunc := TI.mk' (by kernel_rfl)
instance : TScal Try.prog 49 := TScal.mk' Try.underlying49 rfl
instance : TI Try.prog 50 1 8 .nilFunc := TI.mk' (by kernel_rfl)
instance : TScal Try.prog 50 := TScal.mk' Try.underlying50 rfl
instance : TI Try.prog 51 1 8 (.map none) := TI.mk' (by kernel_rfl)
instance : TScal Try.prog 51 := TScal.mk' Try.underlying51 rfl
instance : TI Try.prog 52 0 0 (.agg #[]) := TI.mk' (by kernel_rfl)
instance : TAggr Try.prog 52 := TAggr.mk' Try.underlying52 rfl
instance : TI Try.prog 54 1 8 (.int .u64 0) := TI.mk' (by kernel_rfl)
instance : TScal Try.prog 54 := TScal.mk' Try.underlying54 rfl
instance : TInt Try.prog 54 .u64 := ⟨Try.underlying54⟩
instance : TI Try.prog 55 1 8 .nilFunc := TI.mk' (by kernel_rfl)
instance : TScal Try.prog 55 := TScal.mk' Try.underlying55 rfl
instance : TI Try.prog 56 1 8 .nilFunc := TI.mk' (by kernel_rfl)
instance : TScal Try.prog 56 := TScal.mk' Try.underlying56 rfl
instance : TI Try.prog 57 1 8 .nilFunc := TI.mk' (by kernel_rfl)
instance : TScal Try.prog 57 := TScal.mk' Try.underlying57 rfl
instance : TI Try.prog 58 1 8 (.int .u64 0) := TI.mk' (by kernel_rfl)
instance : TScal Try.prog 58 := TScal.mk' Try.underlying58 rfl
instance : TInt Try.prog 58 .u64 := ⟨Try.underlying58⟩
instance : TI Try.prog 59 1 8 .nilFunc := TI.mk' (by kernel_rfl)
instance : TScal Try.prog 59 := TScal.mk' Try.underlying59 rfl
instance : TI Try.prog 60 1 8 .nilFunc := TI.mk' (by kernel_rfl)
instance : TScal Try.prog 60 := TScal.mk' Try.underlying60 rfl
instance : TI Try.prog 61 1 8 .nilFunc := TI.mk' (by kernel_rfl)
instance : TScal Try.prog 61 := TScal.mk' Try.underlying61 rfl
instance : TI Try.prog 62 1 8 .nilFunc := TI.mk' (by kernel_rfl)
instance : TScal Try.prog 62 := TScal.mk' Try.underlying62 rfl
instance : TI Try.prog 63 1 8 .nilFunc := TI.mk' (by kernel_rfl)
instance : TScal Try.prog 63 := TScal.mk' Try.underlying63 rfl
instance : TI Try.prog 64 1 8 .nilFunc := TI.mk' (by kernel_rfl)
instance : TScal Try.prog 64 := TScal.mk' Try.underlying64 rfl
instance : TI Try.prog 65 1 8 .nilFunc := TI.mk' (by kernel_rfl)
instance : TScal Try.prog 65 := TScal.mk' Try.underlying65 rfl
instance : TI Try.prog 66 1 8 (.int .i64 0) := TI.mk' (by kernel_rfl)
instance : TScal Try.prog 66 := TScal.mk' Try.underlying66 rfl
instance : TInt Try.prog 66 .i64 := ⟨Try.underlying66⟩
instance : TI Try.prog 68 1 8 .nilFunc := TI.mk' (by kernel_rfl)
instance : TScal Try.prog 68 := TScal.mk' Try.underlying68 rfl
instance : TI Try.prog 69 1 8 .nilFunc := TI.mk' (by kernel_rfl)
instance : TScal Try.prog 69 := TScal.mk' Try.underlying69 rfl
instance : TI Try.prog 70 1 8 .nilFunc := TI.mk' (by kernel_rfl)
instance : TScal Try.prog 70 := TScal.mk' Try.underlying70 rfl
instance : TI Try.prog 72 1 8 .nilFunc := TI.mk' (by kernel_rfl)
instance : TScal Try.prog 72 := TScal.mk' Try.underlying72 rfl
instance : TI Try.prog 73 1 8 .nilFunc := TI.mk' (by kernel_rfl)
instance : TScal Try.prog 73 := TScal.mk' Try.underlying73 rfl
instance : TI Try.prog 74 1 4 (.int .u32 0) := TI.mk' (by kernel_rfl)
instance : TScal Try.prog 74 := TScal.mk' Try.underlying74 rfl
instance : TInt Try.prog 74 .u32 := ⟨Try.underlying74⟩
instance : TI Try.prog 75 1 8 .nilFunc := TI.mk' (by kernel_rfl)
instance : TScal Try.prog 75 := TScal.mk' Try.underlying75 rfl
instance : TI Try.prog 76 1 8 (.int .u64 0) := TI.mk' (by kernel_rfl)
instance : TScal Try.prog 76 := TScal.mk' Try.underlying76 rfl
instance : TInt Try.prog 76 .u64 := ⟨Try.underlying76⟩
instance : TI Try.prog 77 1 8 .nilFunc := TI.mk' (by kernel_rfl)
instance : TScal Try.prog 77 := TScal.mk' Try.underlying77 rfl
instance : TI Try.prog 78 1 8 .nilFunc := TI.mk' (by kernel_rfl)
instance : TScal Try.prog 78 := TScal.mk' Try.underlying78 rfl
instance : TI Try.prog 79 1 8 (.pointer none) := TI.mk' (by kernel_rfl)
instance : TScal Try.prog 79 := TScal.mk' Try.underlying79 rfl
instance : TI Try.prog 80 1 8 .nilFunc := TI.mk' (by kernel_rfl)
instance : TScal Try.prog 80 := TScal.mk' Try.underlying80 rfl
instance : TI Try.prog 81 1 8 (.pointer none) := TI.mk' (by kernel_rfl)
instance : TScal Try.prog 81 := TScal.mk' Try.underlying81 rfl
instance : TI Try.prog 83 1 8 .nilFunc := TI.mk' (by kernel_rfl)
instance : TScal Try.prog 83 := TScal.mk' Try.underlying83 rfl
instance : TI Try.prog 84 1 8 .nilFunc := TI.mk' (by kernel_rfl)
instance : TScal Try.prog 84 := TScal.mk' Try.underlying84 rfl
instance : TI Try.prog 90 1 8 .nilFunc := TI.mk' (by kernel_rfl)
instance : TScal Try.prog 90 := TScal.mk' Try.underlying90 rfl
instance : TI Try.prog 91 1 1 (.int .u8 0) := TI.mk' (by kernel_rfl)
instance : TScal Try.prog 91 := TScal.mk' Try.underlying91 rfl
instance : TInt Try.prog 91 .u8 := ⟨Try.underlying91⟩
instance : TI Try.prog 92 1 1 (.int .u8 0) := TI.mk' (by kernel_rfl)
instance : TScal Try.prog 92 := TScal.mk' Try.underlying92 rfl
instance : TInt Try.prog 92 .u8 := ⟨Try.underlying92⟩
instance : TI Try.prog 93 1 8 .nilFunc := TI.mk' (by kernel_rfl)
instance : TScal Try.prog 93 := TScal.mk' Try.underlying93 rfl
instance : TI Try.prog 94 1 8 (.pointer none) := TI.mk' (by kernel_rfl)
instance : TScal Try.prog 94 := TScal.mk' Try.underlying94 rfl
instance : TI Try.prog 95 1 4 (.int .i32 0) := TI.mk' (by kernel_rfl)
instance : TScal Try.prog 95 := TScal.mk' Try.underlying95 rfl
instance : TInt Try.prog 95 .i32 := ⟨Try.underlying95⟩
instance : TI Try.prog 96 1 4 (.int .i32 0) := TI.mk' (by kernel_rfl)
instance : TScal Try.prog 96 := TScal.mk' Try.underlying96 rfl
instance : TInt Try.prog 96 .i32 := ⟨Try.underlying96⟩
instance : TI Try.prog 97 11 48 (.agg #[(.int .u64 0), (.int .u64 0), (.int .u32 0), (.int .u8 0), (.int .u8 0), (.int .u8 0), (.int .u8 0), .nilFunc, (.pointer none), (.int .i32 0), (.int .i32 0)]) := TI.mk' (by kernel_rfl)
instance : TAggr Try.prog 97 := TAggr.mk' Try.underlying97 rfl
instance : TFld Try.prog 97 0 0 := TFld.mk' (fl := { name := "Size_", type := 12, offset := 0, embedded := false, tag := "", pkgPath := "", byteOffset := 0 }) Try.underlying97 rfl (inferInstance : TI Try.prog 12 1 8 (.int .u64 0)) (by decide)
instance : TFieldV Try.prog 97 0 12 0 := ⟨_, { name := "Size_", type := 12, offset := 0, embedded := false, tag := "", pkgPath := "", byteOffset := 0 }, Try.underlying97, rfl, rfl, rfl⟩
instance : TFld Try.prog 97 1 1 := TFld.mk' (fl := { name := "PtrBytes", type := 12, offset := 1, embedded := false, tag := "", pkgPath := "", byteOffset := 8 }) Try.underlying97 rfl (inferInstance : TI Try.prog 12 1 8 (.int .u64 0)) (by decide)
instance : TFieldV Try.prog 97 1 12 1 := ⟨_, { name := "PtrBytes", type := 12, offset := 1, embedded := false, tag := "", pkgPath := "", byteOffset := 8 }, Try.underlying97, rfl, rfl, rfl⟩
instance : TFld Try.prog 97 2 2 := TFld.mk' (fl := { name := "Hash", type := 74, offset := 2, embedded := false, tag := "", pkgPath := "", byteOffset := 16 }) Try.underlying97 rfl (inferInstance : TI Try.prog 74 1 4 (.int .u32 0)) (by decide)
instance : TFieldV Try.prog 97 2 74 2 := ⟨_, { name := "Hash", type := 74, offset := 2, embedded := false, tag := "", pkgPath := "", byteOffset := 16 }, Try.underlying97, rfl, rfl, rfl⟩
instance : TFld Try.prog 97 3 3 := TFld.mk' (fl := { name := "TFlag", type := 91, offset := 3, embedded := false, tag := "", pkgPath := "", byteOffset := 20 }) Try.underlying97 rfl (inferInstance : TI Try.prog 91 1 1 (.int .u8 0)) (by decide)
instance : TFieldV Try.prog 97 3 91 3 := ⟨_, { name := "TFlag", type := 91, offset := 3, embedded := false, tag := "", pkgPath := "", byteOffset := 20 }, Try.underlying97, rfl, rfl, rfl⟩
instance : TFld Try.prog 97 4 4 := TFld.mk' (fl := { name := "Align_", type := 5, offset := 4, embedded := false, tag := "", pkgPath := "", byteOffset := 21 }) Try.underlying97 rfl (inferInstance : TI Try.prog 5 1 1 (.int .u8 0)) (by decide)
instance : TFieldV Try.prog 97 4 5 4 := ⟨_, { name := "Align_", type := 5, offset := 4, embedded := false, tag := "", pkgPath := "", byteOffset := 21 }, Try.underlying97, rfl, rfl, rfl⟩
instance : TFld Try.prog 97 5 5 := TFld.mk' (fl := { name := "FieldAlign_", type := 5, offset := 5, embedded := false, tag := "", pkgPath := "", byteOffset := 22 }) Try.underlying97 rfl (inferInstance : TI Try.prog 5 1 1 (.int .u8 0)) (by decide)
instance : TFieldV Try.prog 97 5 5 5 := ⟨_, { name := "FieldAlign_", type := 5, offset := 5, embedded := false, tag := "", pkgPath := "", byteOffset := 22 }, Try.underlying97, rfl, rfl, rfl⟩
instance : TFld Try.prog 97 6 6 := TFld.mk' (fl := { name := "Kind_", type := 92, offset := 6, embedded := false, tag := "", pkgPath := "", byteOffset := 23 }) Try.underlying97 rfl (inferInstance : TI Try.prog 92 1 1 (.int .u8 0)) (by decide)
instance : TFieldV Try.prog 97 6 92 6 := ⟨_, { name := "Kind_", type := 92, offset := 6, embedded := false, tag := "", pkgPath := "", byteOffset := 23 }, Try.underlying97, rfl, rfl, rfl⟩
instance : TFld Try.prog 97 7 7 := TFld.mk' (fl := { name := "Equal", type := 93, offset := 7, embedded := false, tag := "", pkgPath := "", byteOffset := 24 }) Try.underlying97 rfl (inferInstance : TI Try.prog 93 1 8 .nilFunc) (by decide)
instance : TFieldV Try.prog 97 7 93 7 := ⟨_, { name := "Equal", type := 93, offset := 7, embedded := false, tag := "", pkgPath := "", byteOffset := 24 }, Try.underlying97, rfl, rfl, rfl⟩
instance : TFld Try.prog 97 8 8 := TFld.mk' (fl := { name := "GCData", type := 94, offset := 8, embedded := false, tag := "", pkgPath := "", byteOffset := 32 }) Try.underlying97 rfl (inferInstance : TI Try.prog 94 1 8 (.pointer none)) (by decide)
instance : TFieldV Try.prog 97 8 94 8 := ⟨_, { name := "GCData", type := 94, offset := 8, embedded := false, tag := "", pkgPath := "", byteOffset := 32 }, Try.underlying97, rfl, rfl, rfl⟩
instance : TFld Try.prog 97 9 9 := TFld.mk' (fl := { name := "Str", type := 95, offset := 9, embedded := false, tag := "", pkgPath := "", byteOffset := 40 }) Try.underlying97 rfl (inferInstance : TI Try.prog 95 1 4 (.int .i32 0)) (by decide)
instance : TFieldV Try.prog 97 9 95 9 := ⟨_, { name := "Str", type := 95, offset := 9, embedded := false, tag := "", pkgPath := "", byteOffset := 40 }, Try.underlying97, rfl, rfl, rfl⟩
instance : TFld Try.prog 97 10 10 := TFld.mk' (fl := { name := "PtrToThis", type := 96, offset := 10, embedded := false, tag := "", pkgPath := "", byteOffset := 44 }) Try.underlying97 rfl (inferInstance : TI Try.prog 96 1 4 (.int .i32 0)) (by decide)
instance : TFieldV Try.prog 97 10 96 10 := ⟨_, { name := "PtrToThis", type := 96, offset := 10, embedded := false, tag := "", pkgPath := "", byteOffset := 44 }, Try.underlying97, rfl, rfl, rfl⟩
instance : TI Try.prog 98 11 48 (.agg #[(.int .u64 0), (.int .u64 0), (.int .u32 0), (.int .u8 0), (.int .u8 0), (.int .u8 0), (.int .u8 0), .nilFunc, (.pointer none), (.int .i32 0), (.int .i32 0)]) := TI.mk' (by kernel_rfl)
instance : TAggr Try.prog 98 := TAggr.mk' Try.underlying98 rfl
instance : TFld Try.prog 98 0 0 := TFld.mk' (fl := { name := "Size_", type := 12, offset := 0, embedded := false, tag := "", pkgPath := "", byteOffset := 0 }) Try.underlying98 rfl (inferInstance : TI Try.prog 12 1 8 (.int .u64 0)) (by decide)
instance : TFieldV Try.prog 98 0 12 0 := ⟨_, { name := "Size_", type := 12, offset := 0, embedded := false, tag := "", pkgPath := "", byteOffset := 0 }, Try.underlying98, rfl, rfl, rfl⟩
instance : TFld Try.prog 98 1 1 := TFld.mk' (fl := { name := "PtrBytes", type := 12, offset := 1, embedded := false, tag := "", pkgPath := "", byteOffset := 8 }) Try.underlying98 rfl (inferInstance : TI Try.prog 12 1 8 (.int .u64 0)) (by decide)
instance : TFieldV Try.prog 98 1 12 1 := ⟨_, { name := "PtrBytes", type := 12, offset := 1, embedded := false, tag := "", pkgPath := "", byteOffset := 8 }, Try.underlying98, rfl, rfl, rfl⟩
instance : TFld Try.prog 98 2 2 := TFld.mk' (fl := { name := "Hash", type := 74, offset := 2, embedded := false, tag := "", pkgPath := "", byteOffset := 16 }) Try.underlying98 rfl (inferInstance : TI Try.prog 74 1 4 (.int .u32 0)) (by decide)
instance : TFieldV Try.prog 98 2 74 2 := ⟨_, { name := "Hash", type := 74, offset := 2, embedded := false, tag := "", pkgPath := "", byteOffset := 16 }, Try.underlying98, rfl, rfl, rfl⟩
instance : TFld Try.prog 98 3 3 := TFld.mk' (fl := { name := "TFlag", type := 91, offset := 3, embedded := false, tag := "", pkgPath := "", byteOffset := 20 }) Try.underlying98 rfl (inferInstance : TI Try.prog 91 1 1 (.int .u8 0)) (by decide)
instance : TFieldV Try.prog 98 3 91 3 := ⟨_, { name := "TFlag", type := 91, offset := 3, embedded := false, tag := "", pkgPath := "", byteOffset := 20 }, Try.underlying98, rfl, rfl, rfl⟩
instance : TFld Try.prog 98 4 4 := TFld.mk' (fl := { name := "Align_", type := 5, offset := 4, embedded := false, tag := "", pkgPath := "", byteOffset := 21 }) Try.underlying98 rfl (inferInstance : TI Try.prog 5 1 1 (.int .u8 0)) (by decide)
instance : TFieldV Try.prog 98 4 5 4 := ⟨_, { name := "Align_", type := 5, offset := 4, embedded := false, tag := "", pkgPath := "", byteOffset := 21 }, Try.underlying98, rfl, rfl, rfl⟩
instance : TFld Try.prog 98 5 5 := TFld.mk' (fl := { name := "FieldAlign_", type := 5, offset := 5, embedded := false, tag := "", pkgPath := "", byteOffset := 22 }) Try.underlying98 rfl (inferInstance : TI Try.prog 5 1 1 (.int .u8 0)) (by decide)
instance : TFieldV Try.prog 98 5 5 5 := ⟨_, { name := "FieldAlign_", type := 5, offset := 5, embedded := false, tag := "", pkgPath := "", byteOffset := 22 }, Try.underlying98, rfl, rfl, rfl⟩
instance : TFld Try.prog 98 6 6 := TFld.mk' (fl := { name := "Kind_", type := 92, offset := 6, embedded := false, tag := "", pkgPath := "", byteOffset := 23 }) Try.underlying98 rfl (inferInstance : TI Try.prog 92 1 1 (.int .u8 0)) (by decide)
instance : TFieldV Try.prog 98 6 92 6 := ⟨_, { name := "Kind_", type := 92, offset := 6, embedded := false, tag := "", pkgPath := "", byteOffset := 23 }, Try.underlying98, rfl, rfl, rfl⟩
instance : TFld Try.prog 98 7 7 := TFld.mk' (fl := { name := "Equal", type := 93, offset := 7, embedded := false, tag := "", pkgPath := "", byteOffset := 24 }) Try.underlying98 rfl (inferInstance : TI Try.prog 93 1 8 .nilFunc) (by decide)
instance : TFieldV Try.prog 98 7 93 7 := ⟨_, { name := "Equal", type := 93, offset := 7, embedded := false, tag := "", pkgPath := "", byteOffset := 24 }, Try.underlying98, rfl, rfl, rfl⟩
instance : TFld Try.prog 98 8 8 := TFld.mk' (fl := { name := "GCData", type := 94, offset := 8, embedded := false, tag := "", pkgPath := "", byteOffset := 32 }) Try.underlying98 rfl (inferInstance : TI Try.prog 94 1 8 (.pointer none)) (by decide)
instance : TFieldV Try.prog 98 8 94 8 := ⟨_, { name := "GCData", type := 94, offset := 8, embedded := false, tag := "", pkgPath := "", byteOffset := 32 }, Try.underlying98, rfl, rfl, rfl⟩
instance : TFld Try.prog 98 9 9 := TFld.mk' (fl := { name := "Str", type := 95, offset := 9, embedded := false, tag := "", pkgPath := "", byteOffset := 40 }) Try.underlying98 rfl (inferInstance : TI Try.prog 95 1 4 (.int .i32 0)) (by decide)
instance : TFieldV Try.prog 98 9 95 9 := ⟨_, { name := "Str", type := 95, offset := 9, embedded := false, tag := "", pkgPath := "", byteOffset := 40 }, Try.underlying98, rfl, rfl, rfl⟩
instance : TFld Try.prog 98 10 10 := TFld.mk' (fl := { name := "PtrToThis", type := 96, offset := 10, embedded := false, tag := "", pkgPath := "", byteOffset := 44 }) Try.underlying98 rfl (inferInstance : TI Try.prog 96 1 4 (.int .i32 0)) (by decide)
instance : TFieldV Try.prog 98 10 96 10 := ⟨_, { name := "PtrToThis", type := 96, offset := 10, embedded := false, tag := "", pkgPath := "", byteOffset := 44 }, Try.underlying98, rfl, rfl, rfl⟩
instance : TI Try.prog 99 1 8 (.pointer none) := TI.mk' (by kernel_rfl)
instance : TScal Try.prog 99 := TScal.mk' Try.underlying99 rfl
instance : TEq2 Try.prog 29 := TEq2.mk' (f0 := { name := "P", type := 3, offset := 0, embedded := false, tag := "", pkgPath := "", byteOffset := 0 }) (f1 := { name := "Q", type := 3, offset := 1, embedded := false, tag := "", pkgPath := "", byteOffset := 8 }) Try.underlying29 (by decide) (by decide) rfl rfl (inferInstance : TInt Try.prog 3 .i64) (inferInstance : TInt Try.prog 3 .i64) (by kernel_rfl) (by kernel_rfl)
instance : TEq2 Try.prog 30 := TEq2.mk' (f0 := { name := "P", type := 3, offset := 0, embedded := false, tag := "", pkgPath := "", byteOffset := 0 }) (f1 := { name := "Q", type := 3, offset := 1, embedded := false, tag := "", pkgPath := "", byteOffset := 8 }) Try.underlying30 (by decide) (by decide) rfl rfl (inferInstance : TInt Try.prog 3 .i64) (inferInstance : TInt Try.prog 3 .i64) (by kernel_rfl) (by kernel_rfl)
instance : TEq2 Try.prog 45 := TEq2.mk' (f0 := { name := "X", type := 3, offset := 0, embedded := false, tag := "", pkgPath := "", byteOffset := 0 }) (f1 := { name := "Y", type := 3, offset := 1, embedded := false, tag := "", pkgPath := "", byteOffset := 8 }) Try.underlying45 (by decide) (by decide) rfl rfl (inferInstance : TInt Try.prog 3 .i64) (inferInstance : TInt Try.prog 3 .i64) (by kernel_rfl) (by kernel_rfl)
instance : TEq2 Try.prog 46 := TEq2.mk' (f0 := { name := "X", type := 3, offset := 0, embedded := false, tag := "", pkgPath := "", byteOffset := 0 }) (f1 := { name := "Y", type := 3, offset := 1, embedded := false, tag := "", pkgPath := "", byteOffset := 8 }) Try.underlying46 (by decide) (by decide) rfl rfl (inferInstance : TInt Try.prog 3 .i64) (inferInstance : TInt Try.prog 3 .i64) (by kernel_rfl) (by kernel_rfl)
instance : TMap2 Try.prog 40 46 3 := TMap2.mk' (f0 := { name := "X", type := 3, offset := 0, embedded := false, tag := "", pkgPath := "", byteOffset := 0 }) (f1 := { name := "Y", type := 3, offset := 1, embedded := false, tag := "", pkgPath := "", byteOffset := 8 }) Try.underlying40 Try.underlying46 rfl rfl (inferInstance : TInt Try.prog 3 .i64) (inferInstance : TInt Try.prog 3 .i64)
instance : TMap2 Try.prog 51 30 52 := TMap2.mk' (f0 := { name := "P", type := 3, offset := 0, embedded := false, tag := "", pkgPath := "", byteOffset := 0 }) (f1 := { name := "Q", type := 3, offset := 1, embedded := false, tag := "", pkgPath := "", byteOffset := 8 }) Try.underlying51 Try.underlying30 rfl rfl (inferInstance : TInt Try.prog 3 .i64) (inferInstance : TInt Try.prog 3 .i64)
instance : TBuild Try.prog 7 #[(.int .i64 0), (.int .i64 0), (.bool false), (.int .u8 0)] (fun i => (#[(0, 1), (1, 1), (2, 1), (3, 1)] : Array (Nat × Nat))[i]?) := TBuild.struct (places := #[(0, 1), (1, 1), (2, 1), (3, 1)]) Try.underlying7 (inferInstance : TI Try.prog 7 4 24 (.agg #[(.int .i64 0), (.int .i64 0), (.bool false), (.int .u8 0)])) (by kernel_rfl) (by kernel_rfl)
instance : TBuild Try.prog 8 #[(.int .i64 0), (.int .i64 0), (.bool false), (.int .u8 0)] (fun i => (#[(0, 1), (1, 1), (2, 1), (3, 1)] : Array (Nat × Nat))[i]?) := TBuild.struct (places := #[(0, 1), (1, 1), (2, 1), (3, 1)]) Try.underlying8 (inferInstance : TI Try.prog 8 4 24 (.agg #[(.int .i64 0), (.int .i64 0), (.bool false), (.int .u8 0)])) (by kernel_rfl) (by kernel_rfl)
instance : TBuild Try.prog 18 #[(.pointer none)] (fun i => (#[(0, 1)] : Array (Nat × Nat))[i]?) := TBuild.struct (places := #[(0, 1)]) Try.underlying18 (inferInstance : TI Try.prog 18 1 8 (.agg #[(.pointer none)])) (by kernel_rfl) (by kernel_rfl)
instance : TBuild Try.prog 19 #[(.pointer none)] (fun i => (#[(0, 1)] : Array (Nat × Nat))[i]?) := TBuild.struct (places := #[(0, 1)]) Try.underlying19 (inferInstance : TI Try.prog 19 1 8 (.agg #[(.pointer none)])) (by kernel_rfl) (by kernel_rfl)
instance : TBuild Try.prog 29 #[(.int .i64 0), (.int .i64 0)] (fun i => (#[(0, 1), (1, 1)] : Array (Nat × Nat))[i]?) := TBuild.struct (places := #[(0, 1), (1, 1)]) Try.underlying29 (inferInstance : TI Try.prog 29 2 16 (.agg #[(.int .i64 0), (.int .i64 0)])) (by kernel_rfl) (by kernel_rfl)
instance : TBuild Try.prog 30 #[(.int .i64 0), (.int .i64 0)] (fun i => (#[(0, 1), (1, 1)] : Array (Nat × Nat))[i]?) := TBuild.struct (places := #[(0, 1), (1, 1)]) Try.underlying30 (inferInstance : TI Try.prog 30 2 16 (.agg #[(.int .i64 0), (.int .i64 0)])) (by kernel_rfl) (by kernel_rfl)
instance : TBuild Try.prog 45 #[(.int .i64 0), (.int .i64 0)] (fun i => (#[(0, 1), (1, 1)] : Array (Nat × Nat))[i]?) := TBuild.struct (places := #[(0, 1), (1, 1)]) Try.underlying45 (inferInstance : TI Try.prog 45 2 16 (.agg #[(.int .i64 0), (.int .i64 0)])) (by kernel_rfl) (by kernel_rfl)
instance : TBuild Try.prog 46 #[(.int .i64 0), (.int .i64 0)] (fun i => (#[(0, 1), (1, 1)] : Array (Nat × Nat))[i]?) := TBuild.struct (places := #[(0, 1), (1, 1)]) Try.underlying46 (inferInstance : TI Try.prog 46 2 16 (.agg #[(.int .i64 0), (.int .i64 0)])) (by kernel_rfl) (by kernel_rfl)
instance : TBuild Try.prog 52 #[] (fun i => (#[] : Array (Nat × Nat))[i]?) := TBuild.struct (places := #[]) Try.underlying52 (inferInstance : TI Try.prog 52 0 0 (.agg #[])) (by kernel_rfl) (by kernel_rfl)
instance : TBuild Try.prog 97 #[(.int .u64 0), (.int .u64 0), (.int .u32 0), (.int .u8 0), (.int .u8 0), (.int .u8 0), (.int .u8 0), .nilFunc, (.pointer none), (.int .i32 0), (.int .i32 0)] (fun i => (#[(0, 1), (1, 1), (2, 1), (3, 1), (4, 1), (5, 1), (6, 1), (7, 1), (8, 1), (9, 1), (10, 1)] : Array (Nat × Nat))[i]?) := TBuild.struct (places := #[(0, 1), (1, 1), (2, 1), (3, 1), (4, 1), (5, 1), (6, 1), (7, 1), (8, 1), (9, 1), (10, 1)]) Try.underlying97 (inferInstance : TI Try.prog 97 11 48 (.agg #[(.int .u64 0), (.int .u64 0), (.int .u32 0), (.int .u8 0), (.int .u8 0), (.int .u8 0), (.int .u8 0), .nilFunc, (.pointer none), (.int .i32 0), (.int .i32 0)])) (by kernel_rfl) (by kernel_rfl)
instance : TBuild Try.prog 98 #[(.int .u64 0), (.int .u64 0), (.int .u32 0), (.int .u8 0), (.int .u8 0), (.int .u8 0), (.int .u8 0), .nilFunc, (.pointer none), (.int .i32 0), (.int .i32 0)] (fun i => (#[(0, 1), (1, 1), (2, 1), (3, 1), (4, 1), (5, 1), (6, 1), (7, 1), (8, 1), (9, 1), (10, 1)] : Array (Nat × Nat))[i]?) := TBuild.struct (places := #[(0, 1), (1, 1), (2, 1), (3, 1), (4, 1), (5, 1), (6, 1), (7, 1), (8, 1), (9, 1), (10, 1)]) Try.underlying98 (inferInstance : TI Try.prog 98 11 48 (.agg #[(.int .u64 0), (.int .u64 0), (.int .u32 0), (.int .u8 0), (.int .u8 0), (.int .u8 0), (.int .u8 0), .nilFunc, (.pointer none), (.int .i32 0), (.int .i32 0)])) (by kernel_rfl) (by kernel_rfl)
instance : Body Try.prog 3 := Body.mk' Try.func3 (by kernel_rfl) rfl   -- penumbra/penumbralaw06.DirKatz
instance : Body Try.prog 4 := Body.mk' Try.func4 (by kernel_rfl) rfl   -- penumbra/penumbralaw06.DirForms
instance : Body Try.prog 5 := Body.mk' Try.func5 (by kernel_rfl) rfl   -- penumbra/penumbralaw06.DirOne
instance : Body Try.prog 6 := Body.mk' Try.func6 (by kernel_rfl) rfl   -- penumbra/penumbralaw06.DirCells
instance : Body Try.prog 7 := Body.mk' Try.func7 (by kernel_rfl) rfl   -- penumbra/penumbralaw06.DirAll
instance : Body Try.prog 8 := Body.mk' Try.func8 (by kernel_rfl) rfl   -- penumbra/penumbralaw06.alive
instance : Body Try.prog 9 := Body.mk' Try.func9 (by kernel_rfl) rfl   -- penumbra/dir.Katz
instance : Body Try.prog 10 := Body.mk' Try.func10 (by kernel_rfl) rfl   -- penumbra/penumbraref06.Katz
instance : Body Try.prog 11 := Body.mk' Try.func11 (by kernel_rfl) rfl   -- penumbra/penumbralaw06.sameDirs
instance : Body Try.prog 12 := Body.mk' Try.func12 (by kernel_rfl) rfl   -- penumbra/dir.Normal
instance : Body Try.prog 13 := Body.mk' Try.func13 (by kernel_rfl) rfl   -- penumbra/penumbraref06.Normal
instance : Body Try.prog 14 := Body.mk' Try.func14 (by kernel_rfl) rfl   -- penumbra/dir.Across
instance : Body Try.prog 15 := Body.mk' Try.func15 (by kernel_rfl) rfl   -- penumbra/penumbraref06.Across
instance : Body Try.prog 16 := Body.mk' Try.func16 (by kernel_rfl) rfl   -- penumbra/dir.Check
instance : Body Try.prog 17 := Body.mk' Try.func17 (by kernel_rfl) rfl   -- penumbra/penumbraref06.Check
instance : Body Try.prog 18 := Body.mk' Try.func18 (by kernel_rfl) rfl   -- penumbra/dir.Cmp
instance : Body Try.prog 19 := Body.mk' Try.func19 (by kernel_rfl) rfl   -- penumbra/penumbraref06.Cmp
instance : Body Try.prog 20 := Body.mk' Try.func20 (by kernel_rfl) rfl   -- penumbra/dir.Bins
instance : Body Try.prog 21 := Body.mk' Try.func21 (by kernel_rfl) rfl   -- penumbra/dir.Line
instance : Body Try.prog 22 := Body.mk' Try.func22 (by kernel_rfl) rfl   -- penumbra/dir.Index
instance : Body Try.prog 23 := Body.mk' Try.func23 (by kernel_rfl) rfl   -- penumbra/dir.All
instance : Body Try.prog 24 := Body.mk' Try.func24 (by kernel_rfl) rfl   -- penumbra/penumbraref06.All
instance : Body Try.prog 25 := Body.mk' Try.func25 (by kernel_rfl) rfl   -- penumbra/dir.abs
instance : Body Try.prog 26 := Body.mk' Try.func26 (by kernel_rfl) rfl   -- penumbra/penumbraref06.Twice
instance : Body Try.prog 27 := Body.mk' Try.func27 (by kernel_rfl) rfl   -- penumbra/dir.divisor
instance : Body Try.prog 28 := Body.mk' Try.func28 (by kernel_rfl) rfl   -- penumbra/penumbraref06.divisor
instance : Body Try.prog 29 := Body.mk' Try.func29 (by kernel_rfl) rfl   -- penumbra/penumbraref06.size
instance : Body Try.prog 30 := Body.mk' Try.func30 (by kernel_rfl) rfl   -- penumbra/dir.index
instance : Body Try.prog 31 := Body.mk' Try.func31 (by kernel_rfl) rfl   -- slices.SortFunc[[]penumbra/api.Dir,penumbra/api.Dir]
instance : Body Try.prog 32 := Body.mk' Try.func32 (by kernel_rfl) rfl   -- slices.pdqsortCmpFunc[penumbra/api.Dir]
instance : Body Try.prog 33 := Body.mk' Try.func33 (by kernel_rfl) rfl   -- math/bits.Len
instance : Body Try.prog 34 := Body.mk' Try.func34 (by kernel_rfl) rfl   -- slices.insertionSortCmpFunc[penumbra/api.Dir]
instance : Body Try.prog 35 := Body.mk' Try.func35 (by kernel_rfl) rfl   -- slices.heapSortCmpFunc[penumbra/api.Dir]
instance : Body Try.prog 36 := Body.mk' Try.func36 (by kernel_rfl) rfl   -- slices.breakPatternsCmpFunc[penumbra/api.Dir]
instance : Body Try.prog 37 := Body.mk' Try.func37 (by kernel_rfl) rfl   -- slices.choosePivotCmpFunc[penumbra/api.Dir]
instance : Body Try.prog 38 := Body.mk' Try.func38 (by kernel_rfl) rfl   -- slices.reverseRangeCmpFunc[penumbra/api.Dir]
instance : Body Try.prog 39 := Body.mk' Try.func39 (by kernel_rfl) rfl   -- slices.partialInsertionSortCmpFunc[penumbra/api.Dir]
instance : Body Try.prog 40 := Body.mk' Try.func40 (by kernel_rfl) rfl   -- slices.partitionEqualCmpFunc[penumbra/api.Dir]
instance : Body Try.prog 41 := Body.mk' Try.func41 (by kernel_rfl) rfl   -- slices.partitionCmpFunc[penumbra/api.Dir]
instance : Body Try.prog 42 := Body.mk' Try.func42 (by kernel_rfl) rfl   -- math/bits.Len32
instance : Body Try.prog 43 := Body.mk' Try.func43 (by kernel_rfl) rfl   -- math/bits.Len64
instance : Body Try.prog 44 := Body.mk' Try.func44 (by kernel_rfl) rfl   -- slices.siftDownCmpFunc[penumbra/api.Dir]
instance : Body Try.prog 45 := Body.mk' Try.func45 (by kernel_rfl) rfl   -- slices.nextPowerOfTwo
instance : Body Try.prog 46 := Body.mk' Try.func46 (by kernel_rfl) rfl   -- (*slices.xorshift).Next
instance : Body Try.prog 47 := Body.mk' Try.func47 (by kernel_rfl) rfl   -- slices.medianAdjacentCmpFunc[penumbra/api.Dir]
instance : Body Try.prog 48 := Body.mk' Try.func48 (by kernel_rfl) rfl   -- slices.medianCmpFunc[penumbra/api.Dir]
instance : Body Try.prog 49 := Body.mk' Try.func49 (by kernel_rfl) rfl   -- slices.order2CmpFunc[penumbra/api.Dir]
end Go.Proofs.Ytabnokfanhaihaa
