/- Texts joined: Facts, PenF. -/
import Derived.Test.YthecbhegjdcjfaaDoorJp5
import Derived.Test.YthecbhegjdcjfaaDoorProg
section
/- The seat's types, fields and functions, as the pen's rules ask for them. Written by a program of this repo (facts.py). -/
set_option maxRecDepth 100000
namespace Go.Proofs.YthecbhegjdcjfaaDoor
open Go.Pen

instance : TI Tryd.prog 1 1 8 .nilFunc := TI.mk' (by kernel_rfl)
instance : TScal Tryd.prog 1 := TScal.mk' Tryd.underlying1 rfl
instance : TI Tryd.prog 2 1 8 (.int .i64 0) := TI.mk' (by kernel_rfl)
instance : TScal Tryd.prog 2 := TScal.mk' Tryd.underlying2 rfl
instance : TInt Tryd.prog 2 .i64 := ⟨Tryd.underlying2⟩
instance : TI Tryd.prog 3 1 8 (.int .i64 0) := TI.mk' (by kernel_rfl)
instance : TScal Tryd.prog 3 := TScal.mk' Tryd.underlying3 rfl
instance : TInt Tryd.prog 3 .i64 := ⟨Tryd.underlying3⟩
instance : TI Tryd.prog 4 1 1 (.bool false) := TI.mk' (by kernel_rfl)
instance : TScal Tryd.prog 4 := TScal.mk' Tryd.underlying4 rfl
instance : TBool Tryd.prog 4 := ⟨Tryd.underlying4⟩
instance : TI Tryd.prog 5 1 1 (.int .u8 0) := TI.mk' (by kernel_rfl)
instance : TScal Tryd.prog 5 := TScal.mk' Tryd.underlying5 rfl
instance : TInt Tryd.prog 5 .u8 := ⟨Tryd.underlying5⟩
instance : TI Tryd.prog 6 1 1 (.int .u8 0) := TI.mk' (by kernel_rfl)
instance : TScal Tryd.prog 6 := TScal.mk' Tryd.underlying6 rfl
instance : TInt Tryd.prog 6 .u8 := ⟨Tryd.underlying6⟩
instance : TI Tryd.prog 7 4 24 (.agg #[(.int .i64 0), (.int .i64 0), (.bool false), (.int .u8 0)]) := TI.mk' (by kernel_rfl)
instance : TAggr Tryd.prog 7 := TAggr.mk' Tryd.underlying7 rfl
instance : TFld Tryd.prog 7 0 0 := TFld.mk' (fl := { name := "x", type := 2, offset := 0, embedded := false, tag := "", pkgPath := "runtime", byteOffset := 0 }) Tryd.underlying7 rfl (inferInstance : TI Tryd.prog 2 1 8 (.int .i64 0)) (by decide)
instance : TFieldV Tryd.prog 7 0 2 0 := ⟨_, { name := "x", type := 2, offset := 0, embedded := false, tag := "", pkgPath := "runtime", byteOffset := 0 }, Tryd.underlying7, rfl, rfl, rfl⟩
instance : TFld Tryd.prog 7 1 1 := TFld.mk' (fl := { name := "y", type := 3, offset := 1, embedded := false, tag := "", pkgPath := "runtime", byteOffset := 8 }) Tryd.underlying7 rfl (inferInstance : TI Tryd.prog 3 1 8 (.int .i64 0)) (by decide)
instance : TFieldV Tryd.prog 7 1 3 1 := ⟨_, { name := "y", type := 3, offset := 1, embedded := false, tag := "", pkgPath := "runtime", byteOffset := 8 }, Tryd.underlying7, rfl, rfl, rfl⟩
instance : TFld Tryd.prog 7 2 2 := TFld.mk' (fl := { name := "signed", type := 4, offset := 2, embedded := false, tag := "", pkgPath := "runtime", byteOffset := 16 }) Tryd.underlying7 rfl (inferInstance : TI Tryd.prog 4 1 1 (.bool false)) (by decide)
instance : TFieldV Tryd.prog 7 2 4 2 := ⟨_, { name := "signed", type := 4, offset := 2, embedded := false, tag := "", pkgPath := "runtime", byteOffset := 16 }, Tryd.underlying7, rfl, rfl, rfl⟩
instance : TFld Tryd.prog 7 3 3 := TFld.mk' (fl := { name := "code", type := 6, offset := 3, embedded := false, tag := "", pkgPath := "runtime", byteOffset := 17 }) Tryd.underlying7 rfl (inferInstance : TI Tryd.prog 6 1 1 (.int .u8 0)) (by decide)
instance : TFieldV Tryd.prog 7 3 6 3 := ⟨_, { name := "code", type := 6, offset := 3, embedded := false, tag := "", pkgPath := "runtime", byteOffset := 17 }, Tryd.underlying7, rfl, rfl, rfl⟩
instance : TI Tryd.prog 8 4 24 (.agg #[(.int .i64 0), (.int .i64 0), (.bool false), (.int .u8 0)]) := TI.mk' (by kernel_rfl)
instance : TAggr Tryd.prog 8 := TAggr.mk' Tryd.underlying8 rfl
instance : TFld Tryd.prog 8 0 0 := TFld.mk' (fl := { name := "x", type := 2, offset := 0, embedded := false, tag := "", pkgPath := "runtime", byteOffset := 0 }) Tryd.underlying8 rfl (inferInstance : TI Tryd.prog 2 1 8 (.int .i64 0)) (by decide)
instance : TFieldV Tryd.prog 8 0 2 0 := ⟨_, { name := "x", type := 2, offset := 0, embedded := false, tag := "", pkgPath := "runtime", byteOffset := 0 }, Tryd.underlying8, rfl, rfl, rfl⟩
instance : TFld Tryd.prog 8 1 1 := TFld.mk' (fl := { name := "y", type := 3, offset := 1, embedded := false, tag := "", pkgPath := "runtime", byteOffset := 8 }) Tryd.underlying8 rfl (inferInstance : TI Tryd.prog 3 1 8 (.int .i64 0)) (by decide)
instance : TFieldV Tryd.prog 8 1 3 1 := ⟨_, { name := "y", type := 3, offset := 1, embedded := false, tag := "", pkgPath := "runtime", byteOffset := 8 }, Tryd.underlying8, rfl, rfl, rfl⟩
instance : TFld Tryd.prog 8 2 2 := TFld.mk' (fl := { name := "signed", type := 4, offset := 2, embedded := false, tag := "", pkgPath := "runtime", byteOffset := 16 }) Tryd.underlying8 rfl (inferInstance : TI Tryd.prog 4 1 1 (.bool false)) (by decide)
instance : TFieldV Tryd.prog 8 2 4 2 := ⟨_, { name := "signed", type := 4, offset := 2, embedded := false, tag := "", pkgPath := "runtime", byteOffset := 16 }, Tryd.underlying8, rfl, rfl, rfl⟩
instance : TFld Tryd.prog 8 3 3 := TFld.mk' (fl := { name := "code", type := 6, offset := 3, embedded := false, tag := "", pkgPath := "runtime", byteOffset := 17 }) Tryd.underlying8 rfl (inferInstance : TI Tryd.prog 6 1 1 (.int .u8 0)) (by decide)
instance : TFieldV Tryd.prog 8 3 6 3 := ⟨_, { name := "code", type := 6, offset := 3, embedded := false, tag := "", pkgPath := "runtime", byteOffset := 17 }, Tryd.underlying8, rfl, rfl, rfl⟩
instance : TI Tryd.prog 12 1 8 (.int .u64 0) := TI.mk' (by kernel_rfl)
instance : TScal Tryd.prog 12 := TScal.mk' Tryd.underlying12 rfl
instance : TInt Tryd.prog 12 .u64 := ⟨Tryd.underlying12⟩
instance : TI Tryd.prog 15 1 8 (.pointer none) := TI.mk' (by kernel_rfl)
instance : TScal Tryd.prog 15 := TScal.mk' Tryd.underlying15 rfl
instance : TI Tryd.prog 16 1 8 (.pointer none) := TI.mk' (by kernel_rfl)
instance : TScal Tryd.prog 16 := TScal.mk' Tryd.underlying16 rfl
instance : TI Tryd.prog 17 1 8 (.pointer none) := TI.mk' (by kernel_rfl)
instance : TScal Tryd.prog 17 := TScal.mk' Tryd.underlying17 rfl
instance : TI Tryd.prog 18 1 8 (.agg #[(.pointer none)]) := TI.mk' (by kernel_rfl)
instance : TAggr Tryd.prog 18 := TAggr.mk' Tryd.underlying18 rfl
instance : TFld Tryd.prog 18 0 0 := TFld.mk' (fl := { name := "typ", type := 17, offset := 0, embedded := false, tag := "", pkgPath := "internal/runtime/maps", byteOffset := 0 }) Tryd.underlying18 rfl (inferInstance : TI Tryd.prog 17 1 8 (.pointer none)) (by decide)
instance : TFieldV Tryd.prog 18 0 17 0 := ⟨_, { name := "typ", type := 17, offset := 0, embedded := false, tag := "", pkgPath := "internal/runtime/maps", byteOffset := 0 }, Tryd.underlying18, rfl, rfl, rfl⟩
instance : TI Tryd.prog 19 1 8 (.agg #[(.pointer none)]) := TI.mk' (by kernel_rfl)
instance : TAggr Tryd.prog 19 := TAggr.mk' Tryd.underlying19 rfl
instance : TFld Tryd.prog 19 0 0 := TFld.mk' (fl := { name := "typ", type := 17, offset := 0, embedded := false, tag := "", pkgPath := "internal/runtime/maps", byteOffset := 0 }) Tryd.underlying19 rfl (inferInstance : TI Tryd.prog 17 1 8 (.pointer none)) (by decide)
instance : TFieldV Tryd.prog 19 0 17 0 := ⟨_, { name := "typ", type := 17, offset := 0, embedded := false, tag := "", pkgPath := "internal/runtime/maps", byteOffset := 0 }, Tryd.underlying19, rfl, rfl, rfl⟩
instance : TI Tryd.prog 20 1 16 .nilIface := TI.mk' (by kernel_rfl)
instance : TScal Tryd.prog 20 := TScal.mk' Tryd.underlying20 rfl
instance : TI Tryd.prog 21 1 4 (.int .i32 0) := TI.mk' (by kernel_rfl)
instance : TScal Tryd.prog 21 := TScal.mk' Tryd.underlying21 rfl
instance : TInt Tryd.prog 21 .i32 := ⟨Tryd.underlying21⟩
instance : TI Tryd.prog 22 1 24 (.slice none 0 0) := TI.mk' (by kernel_rfl)
instance : TScal Tryd.prog 22 := TScal.mk' Tryd.underlying22 rfl
instance : TSlice Tryd.prog 22 43 := ⟨Tryd.underlying22⟩
instance : TI Tryd.prog 23 1 8 .nilFunc := TI.mk' (by kernel_rfl)
instance : TScal Tryd.prog 23 := TScal.mk' Tryd.underlying23 rfl
instance : TI Tryd.prog 24 1 24 (.slice none 0 0) := TI.mk' (by kernel_rfl)
instance : TScal Tryd.prog 24 := TScal.mk' Tryd.underlying24 rfl
instance : TSlice Tryd.prog 24 28 := ⟨Tryd.underlying24⟩
instance : TI Tryd.prog 25 2 32 (.agg #[(.int .i64 0), (.slice none 0 0)]) := TI.mk' (by kernel_rfl)
instance : TAggr Tryd.prog 25 := TAggr.mk' Tryd.underlying25 rfl
instance : TFld Tryd.prog 25 0 0 := TFld.mk' (fl := { name := "N", type := 3, offset := 0, embedded := false, tag := "", pkgPath := "", byteOffset := 0 }) Tryd.underlying25 rfl (inferInstance : TI Tryd.prog 3 1 8 (.int .i64 0)) (by decide)
instance : TFieldV Tryd.prog 25 0 3 0 := ⟨_, { name := "N", type := 3, offset := 0, embedded := false, tag := "", pkgPath := "", byteOffset := 0 }, Tryd.underlying25, rfl, rfl, rfl⟩
instance : TFld Tryd.prog 25 1 1 := TFld.mk' (fl := { name := "Cells", type := 24, offset := 1, embedded := false, tag := "", pkgPath := "", byteOffset := 8 }) Tryd.underlying25 rfl (inferInstance : TI Tryd.prog 24 1 24 (.slice none 0 0)) (by decide)
instance : TFieldV Tryd.prog 25 1 24 1 := ⟨_, { name := "Cells", type := 24, offset := 1, embedded := false, tag := "", pkgPath := "", byteOffset := 8 }, Tryd.underlying25, rfl, rfl, rfl⟩
instance : TI Tryd.prog 26 2 32 (.agg #[(.int .i64 0), (.slice none 0 0)]) := TI.mk' (by kernel_rfl)
instance : TAggr Tryd.prog 26 := TAggr.mk' Tryd.underlying26 rfl
instance : TFld Tryd.prog 26 0 0 := TFld.mk' (fl := { name := "N", type := 3, offset := 0, embedded := false, tag := "", pkgPath := "", byteOffset := 0 }) Tryd.underlying26 rfl (inferInstance : TI Tryd.prog 3 1 8 (.int .i64 0)) (by decide)
instance : TFieldV Tryd.prog 26 0 3 0 := ⟨_, { name := "N", type := 3, offset := 0, embedded := false, tag := "", pkgPath := "", byteOffset := 0 }, Tryd.underlying26, rfl, rfl, rfl⟩
instance : TFld Tryd.prog 26 1 1 := TFld.mk' (fl := { name := "Cells", type := 24, offset := 1, embedded := false, tag := "", pkgPath := "", byteOffset := 8 }) Tryd.underlying26 rfl (inferInstance : TI Tryd.prog 24 1 24 (.slice none 0 0)) (by decide)
instance : TFieldV Tryd.prog 26 1 24 1 := ⟨_, { name := "Cells", type := 24, offset := 1, embedded := false, tag := "", pkgPath := "", byteOffset := 8 }, Tryd.underlying26, rfl, rfl, rfl⟩
instance : TI Tryd.prog 27 1 8 .nilFunc := TI.mk' (by kernel_rfl)
instance : TScal Tryd.prog 27 := TScal.mk' Tryd.underlying27 rfl
instance : TI Tryd.prog 28 1 16 (.complex .f64 0 0) := TI.mk' (by kernel_rfl)
instance : TScal Tryd.prog 28 := TScal.mk' Tryd.underlying28 rfl
instance : TI Tryd.prog 29 1 8 (.int .i64 0) := TI.mk' (by kernel_rfl)
instance : TScal Tryd.prog 29 := TScal.mk' Tryd.underlying29 rfl
instance : TInt Tryd.prog 29 .i64 := ⟨Tryd.underlying29⟩
instance : TI Tryd.prog 31 1 8 .nilFunc := TI.mk' (by kernel_rfl)
instance : TScal Tryd.prog 31 := TScal.mk' Tryd.underlying31 rfl
instance : TI Tryd.prog 33 1 8 .nilFunc := TI.mk' (by kernel_rfl)
instance : TScal Tryd.prog 33 := TScal.mk' Tryd.underlying33 rfl
instance : TI Tryd.prog 34 1 8 .nilFunc := TI.mk' (by kernel_rfl)
instance : TScal Tryd.prog 34 := TScal.mk' Tryd.underlying34 rfl
instance : TI Tryd.prog 35 1 8 .nilFunc := TI.mk' (by kernel_rfl)
instance : TScal Tryd.prog 35 := TScal.mk' Tryd.underlying35 rfl
instance : TI Tryd.prog 36 1 8 .nilFunc := TI.mk' (by kernel_rfl)
instance : TScal Tryd.prog 36 := TScal.mk' Tryd.underlying36 rfl
instance : TI Tryd.prog 37 1 8 (.float .f64 0) := TI.mk' (by kernel_rfl)
instance : TScal Tryd.prog 37 := TScal.mk' Tryd.underlying37 rfl
instance : TI Tryd.prog 38 1 8 .nilFunc := TI.mk' (by kernel_rfl)
instance : TScal Tryd.prog 38 := TScal.mk' Tryd.underlying38 rfl
instance : TI Tryd.prog 39 1 8 .nilFunc := TI.mk' (by kernel_rfl)
instance : TScal Tryd.prog 39 := TScal.mk' Tryd.underlying39 rfl
instance : TI Tryd.prog 40 1 8 .nilFunc := TI.mk' (by kernel_rfl)
instance : TScal Tryd.prog 40 := TScal.mk' Tryd.underlying40 rfl
instance : TI Tryd.prog 41 1 8 .nilFunc := TI.mk' (by kernel_rfl)
instance : TScal Tryd.prog 41 := TScal.mk' Tryd.underlying41 rfl
instance : TI Tryd.prog 42 1 8 .nilFunc := TI.mk' (by kernel_rfl)
instance : TScal Tryd.prog 42 := TScal.mk' Tryd.underlying42 rfl
instance : TI Tryd.prog 43 2 8 (.agg #[(.int .i32 0), (.int .i32 0)]) := TI.mk' (by kernel_rfl)
instance : TAggr Tryd.prog 43 := TAggr.mk' Tryd.underlying43 rfl
instance : TArray Tryd.prog 43 2 21 := ⟨Tryd.underlying43⟩
instance : TI Tryd.prog 44 1 8 (.int .u64 0) := TI.mk' (by kernel_rfl)
instance : TScal Tryd.prog 44 := TScal.mk' Tryd.underlying44 rfl
instance : TInt Tryd.prog 44 .u64 := ⟨Tryd.underlying44⟩
instance : TI Tryd.prog 45 1 8 .nilFunc := TI.mk' (by kernel_rfl)
instance : TScal Tryd.prog 45 := TScal.mk' Tryd.underlying45 rfl
instance : TI Tryd.prog 46 1 8 .nilFunc := TI.mk' (by kernel_rfl)
instance : TScal Tryd.prog 46 := TScal.mk' Tryd.underlying46 rfl
instance : TI Tryd.prog 47 1 8 .nilFunc := TI.mk' (by kernel_rfl)
instance : TScal Tryd.prog 47 := TScal.mk' Tryd.underlying47 rfl
instance : TI Tryd.prog 48 1 8 .nilFunc := TI.mk' (by kernel_rfl)
instance : TScal Tryd.prog 48 := TScal.mk' Tryd.underlying48 rfl
instance : TI Tryd.prog 49 1 8 .nilFunc := TI.mk' (by kernel_rfl)
instance : TScal Tryd.prog 49 := TScal.mk' Tryd.underlying49 rfl
instance : TI Tryd.prog 50 1 8 .nilFunc := TI.mk' (by kernel_rfl)
instance : TScal Tryd.prog 50 := TScal.mk' Tryd.underlying50 rfl
instance : TI Tryd.prog 51 1 8 .nilFunc := TI.mk' (by kernel_rfl)
instance : TScal Tryd.prog 51 := TScal.mk' Tryd.underlying51 rfl
instance : TI Tryd.prog 52 1 8 .nilFunc := TI.mk' (by kernel_rfl)
instance : TScal Tryd.prog 52 := TScal.mk' Tryd.underlying52 rfl
instance : TI Tryd.prog 54 1 8 .nilFunc := TI.mk' (by kernel_rfl)
instance : TScal Tryd.prog 54 := TScal.mk' Tryd.underlying54 rfl
instance : TI Tryd.prog 55 1 8 .nilFunc := TI.mk' (by kernel_rfl)
instance : TScal Tryd.prog 55 := TScal.mk' Tryd.underlying55 rfl
instance : TI Tryd.prog 56 1 8 .nilFunc := TI.mk' (by kernel_rfl)
instance : TScal Tryd.prog 56 := TScal.mk' Tryd.underlying56 rfl
instance : TI Tryd.prog 58 1 8 .nilFunc := TI.mk' (by kernel_rfl)
instance : TScal Tryd.prog 58 := TScal.mk' Tryd.underlying58 rfl
instance : TI Tryd.prog 59 1 8 .nilFunc := TI.mk' (by kernel_rfl)
instance : TScal Tryd.prog 59 := TScal.mk' Tryd.underlying59 rfl
instance : TI Tryd.prog 60 1 8 (.int .u64 0) := TI.mk' (by kernel_rfl)
instance : TScal Tryd.prog 60 := TScal.mk' Tryd.underlying60 rfl
instance : TInt Tryd.prog 60 .u64 := ⟨Tryd.underlying60⟩
instance : TI Tryd.prog 61 1 8 .nilFunc := TI.mk' (by kernel_rfl)
instance : TScal Tryd.prog 61 := TScal.mk' Tryd.underlying61 rfl
instance : TI Tryd.prog 62 1 8 .nilFunc := TI.mk' (by kernel_rfl)
instance : TScal Tryd.prog 62 := TScal.mk' Tryd.underlying62 rfl
instance : TI Tryd.prog 63 1 8 .nilFunc := TI.mk' (by kernel_rfl)
instance : TScal Tryd.prog 63 := TScal.mk' Tryd.underlying63 rfl
instance : TI Tryd.prog 64 1 8 .nilFunc := TI.mk' (by kernel_rfl)
instance : TScal Tryd.prog 64 := TScal.mk' Tryd.underlying64 rfl
instance : TI Tryd.prog 65 1 8 .nilFunc := TI.mk' (by kernel_rfl)
instance : TScal Tryd.prog 65 := TScal.mk' Tryd.underlying65 rfl
instance : TI Tryd.prog 66 1 8 .nilFunc := TI.mk' (by kernel_rfl)
instance : TScal Tryd.prog 66 := TScal.mk' Tryd.underlying66 rfl
instance : TI Tryd.prog 67 1 8 .nilFunc := TI.mk' (by kernel_rfl)
instance : TScal Tryd.prog 67 := TScal.mk' Tryd.underlying67 rfl
instance : TI Tryd.prog 68 2 16 (.agg #[(.int .i64 0), (.int .i64 0)]) := TI.mk' (by kernel_rfl)
instance : TAggr Tryd.prog 68 := TAggr.mk' Tryd.underlying68 rfl
instance : TArray Tryd.prog 68 2 3 := ⟨Tryd.underlying68⟩
instance : TI Tryd.prog 69 1 8 .nilFunc := TI.mk' (by kernel_rfl)
instance : TScal Tryd.prog 69 := TScal.mk' Tryd.underlying69 rfl
instance : TI Tryd.prog 70 1 8 .nilFunc := TI.mk' (by kernel_rfl)
instance : TScal Tryd.prog 70 := TScal.mk' Tryd.underlying70 rfl
instance : TI Tryd.prog 71 1 4 (.int .u32 0) := TI.mk' (by kernel_rfl)
instance : TScal Tryd.prog 71 := TScal.mk' Tryd.underlying71 rfl
instance : TInt Tryd.prog 71 .u32 := ⟨Tryd.underlying71⟩
instance : TI Tryd.prog 72 1 8 .nilFunc := TI.mk' (by kernel_rfl)
instance : TScal Tryd.prog 72 := TScal.mk' Tryd.underlying72 rfl
instance : TI Tryd.prog 73 1 8 .nilFunc := TI.mk' (by kernel_rfl)
instance : TScal Tryd.prog 73 := TScal.mk' Tryd.underlying73 rfl
instance : TI Tryd.prog 74 1 8 .nilFunc := TI.mk' (by kernel_rfl)
instance : TScal Tryd.prog 74 := TScal.mk' Tryd.underlying74 rfl
instance : TI Tryd.prog 75 32 32 (.agg #[(.int .u8 0), (.int .u8 0), (.int .u8 0), (.int .u8 0), (.int .u8 0), (.int .u8 0), (.int .u8 0), (.int .u8 0), (.int .u8 0), (.int .u8 0), (.int .u8 0), (.int .u8 0), (.int .u8 0), (.int .u8 0), (.int .u8 0), (.int .u8 0), (.int .u8 0), (.int .u8 0), (.int .u8 0), (.int .u8 0), (.int .u8 0), (.int .u8 0), (.int .u8 0), (.int .u8 0), (.int .u8 0), (.int .u8 0), (.int .u8 0), (.int .u8 0), (.int .u8 0), (.int .u8 0), (.int .u8 0), (.int .u8 0)]) := TI.mk' (by kernel_rfl)
instance : TAggr Tryd.prog 75 := TAggr.mk' Tryd.underlying75 rfl
instance : TArray Tryd.prog 75 32 5 := ⟨Tryd.underlying75⟩
instance : TI Tryd.prog 76 64 64 (.agg #[(.int .u8 0), (.int .u8 0), (.int .u8 0), (.int .u8 0), (.int .u8 0), (.int .u8 0), (.int .u8 0), (.int .u8 0), (.int .u8 0), (.int .u8 0), (.int .u8 0), (.int .u8 0), (.int .u8 0), (.int .u8 0), (.int .u8 0), (.int .u8 0), (.int .u8 0), (.int .u8 0), (.int .u8 0), (.int .u8 0), (.int .u8 0), (.int .u8 0), (.int .u8 0), (.int .u8 0), (.int .u8 0), (.int .u8 0), (.int .u8 0), (.int .u8 0), (.int .u8 0), (.int .u8 0), (.int .u8 0), (.int .u8 0), (.int .u8 0), (.int .u8 0), (.int .u8 0), (.int .u8 0), (.int .u8 0), (.int .u8 0), (.int .u8 0), (.int .u8 0), (.int .u8 0), (.int .u8 0), (.int .u8 0), (.int .u8 0), (.int .u8 0), (.int .u8 0), (.int .u8 0), (.int .u8 0), (.int .u8 0), (.int .u8 0), (.int .u8 0), (.int .u8 0), (.int .u8 0), (.int .u8 0), (.int .u8 0), (.int .u8 0), (.int .u8 0), (.int .u8 0), (.int .u8 0), (.int .u8 0), (.int .u8 0), (.int .u8 0), (.int .u8 0), (.int .u8 0)]) := TI.mk' (by kernel_rfl)
instance : TAggr Tryd.prog 76 := TAggr.mk' Tryd.underlying76 rfl
instance : TArray Tryd.prog 76 64 5 := ⟨Tryd.underlying76⟩
instance : TI Tryd.prog 77 1 8 .nilFunc := TI.mk' (by kernel_rfl)
instance : TScal Tryd.prog 77 := TScal.mk' Tryd.underlying77 rfl
instance : TI Tryd.prog 78 1 8 .nilFunc := TI.mk' (by kernel_rfl)
instance : TScal Tryd.prog 78 := TScal.mk' Tryd.underlying78 rfl
instance : TI Tryd.prog 79 1 8 .nilFunc := TI.mk' (by kernel_rfl)
instance : TScal Tryd.prog 79 := TScal.mk' Tryd.underlying79 rfl
instance : TI Tryd.prog 81 1 8 .nilFunc := TI.mk' (by kernel_rfl)
instance : TScal Tryd.prog 81 := TScal.mk' Tryd.underlying81 rfl
instance : TI Tryd.prog 82 1 8 .nilFunc := TI.mk' (by kernel_rfl)
instance : TScal Tryd.prog 82 := TScal.mk' Tryd.underlying82 rfl
instance : TI Tryd.prog 83 1 8 .nilFunc := TI.mk' (by kernel_rfl)
instance : TScal Tryd.prog 83 := TScal.mk' Tryd.underlying83 rfl
instance : TI Tryd.prog 89 1 8 .nilFunc := TI.mk' (by kernel_rfl)
instance : TScal Tryd.prog 89 := TScal.mk' Tryd.underlying89 rfl
instance : TI Tryd.prog 90 1 1 (.int .u8 0) := TI.mk' (by kernel_rfl)
instance : TScal Tryd.prog 90 := TScal.mk' Tryd.underlying90 rfl
instance : TInt Tryd.prog 90 .u8 := ⟨Tryd.underlying90⟩
instance : TI Tryd.prog 91 1 1 (.int .u8 0) := TI.mk' (by kernel_rfl)
instance : TScal Tryd.prog 91 := TScal.mk' Tryd.underlying91 rfl
instance : TInt Tryd.prog 91 .u8 := ⟨Tryd.underlying91⟩
instance : TI Tryd.prog 92 1 8 .nilFunc := TI.mk' (by kernel_rfl)
instance : TScal Tryd.prog 92 := TScal.mk' Tryd.underlying92 rfl
instance : TI Tryd.prog 93 1 8 (.pointer none) := TI.mk' (by kernel_rfl)
instance : TScal Tryd.prog 93 := TScal.mk' Tryd.underlying93 rfl
instance : TI Tryd.prog 94 1 4 (.int .i32 0) := TI.mk' (by kernel_rfl)
instance : TScal Tryd.prog 94 := TScal.mk' Tryd.underlying94 rfl
instance : TInt Tryd.prog 94 .i32 := ⟨Tryd.underlying94⟩
instance : TI Tryd.prog 95 1 4 (.int .i32 0) := TI.mk' (by kernel_rfl)
instance : TScal Tryd.prog 95 := TScal.mk' Tryd.underlying95 rfl
instance : TInt Tryd.prog 95 .i32 := ⟨Tryd.underlying95⟩
instance : TI Tryd.prog 96 11 48 (.agg #[(.int .u64 0), (.int .u64 0), (.int .u32 0), (.int .u8 0), (.int .u8 0), (.int .u8 0), (.int .u8 0), .nilFunc, (.pointer none), (.int .i32 0), (.int .i32 0)]) := TI.mk' (by kernel_rfl)
instance : TAggr Tryd.prog 96 := TAggr.mk' Tryd.underlying96 rfl
instance : TFld Tryd.prog 96 0 0 := TFld.mk' (fl := { name := "Size_", type := 12, offset := 0, embedded := false, tag := "", pkgPath := "", byteOffset := 0 }) Tryd.underlying96 rfl (inferInstance : TI Tryd.prog 12 1 8 (.int .u64 0)) (by decide)
instance : TFieldV Tryd.prog 96 0 12 0 := ⟨_, { name := "Size_", type := 12, offset := 0, embedded := false, tag := "", pkgPath := "", byteOffset := 0 }, Tryd.underlying96, rfl, rfl, rfl⟩
instance : TFld Tryd.prog 96 1 1 := TFld.mk' (fl := { name := "PtrBytes", type := 12, offset := 1, embedded := false, tag := "", pkgPath := "", byteOffset := 8 }) Tryd.underlying96 rfl (inferInstance : TI Tryd.prog 12 1 8 (.int .u64 0)) (by decide)
instance : TFieldV Tryd.prog 96 1 12 1 := ⟨_, { name := "PtrBytes", type := 12, offset := 1, embedded := false, tag := "", pkgPath := "", byteOffset := 8 }, Tryd.underlying96, rfl, rfl, rfl⟩
instance : TFld Tryd.prog 96 2 2 := TFld.mk' (fl := { name := "Hash", type := 71, offset := 2, embedded := false, tag := "", pkgPath := "", byteOffset := 16 }) Tryd.underlying96 rfl (inferInstance : TI Tryd.prog 71 1 4 (.int .u32 0)) (by decide)
instance : TFieldV Tryd.prog 96 2 71 2 := ⟨_, { name := "Hash", type := 71, offset := 2, embedded := false, tag := "", pkgPath := "", byteOffset := 16 }, Tryd.underlying96, rfl, rfl, rfl⟩
instance : TFld Tryd.prog 96 3 3 := TFld.mk' (fl := { name := "TFlag", type := 90, offset := 3, embedded := false, tag := "", pkgPath := "", byteOffset := 20 }) Tryd.underlying96 rfl (inferInstance : TI Tryd.prog 90 1 1 (.int .u8 0)) (by decide)
instance : TFieldV Tryd.prog 96 3 90 3 := ⟨_, { name := "TFlag", type := 90, offset := 3, embedded := false, tag := "", pkgPath := "", byteOffset := 20 }, Tryd.underlying96, rfl, rfl, rfl⟩
instance : TFld Tryd.prog 96 4 4 := TFld.mk' (fl := { name := "Align_", type := 5, offset := 4, embedded := false, tag := "", pkgPath := "", byteOffset := 21 }) Tryd.underlying96 rfl (inferInstance : TI Tryd.prog 5 1 1 (.int .u8 0)) (by decide)
instance : TFieldV Tryd.prog 96 4 5 4 := ⟨_, { name := "Align_", type := 5, offset := 4, embedded := false, tag := "", pkgPath := "", byteOffset := 21 }, Tryd.underlying96, rfl, rfl, rfl⟩
instance : TFld Tryd.prog 96 5 5 := TFld.mk' (fl := { name := "FieldAlign_", type := 5, offset := 5, embedded := false, tag := "", pkgPath := "", byteOffset := 22 }) Tryd.underlying96 rfl (inferInstance : TI Tryd.prog 5 1 1 (.int .u8 0)) (by decide)
instance : TFieldV Tryd.prog 96 5 5 5 := ⟨_, { name := "FieldAlign_", type := 5, offset := 5, embedded := false, tag := "", pkgPath := "", byteOffset := 22 }, Tryd.underlying96, rfl, rfl, rfl⟩
instance : TFld Tryd.prog 96 6 6 := TFld.mk' (fl := { name := "Kind_", type := 91, offset := 6, embedded := false, tag := "", pkgPath := "", byteOffset := 23 }) Tryd.underlying96 rfl (inferInstance : TI Tryd.prog 91 1 1 (.int .u8 0)) (by decide)
instance : TFieldV Tryd.prog 96 6 91 6 := ⟨_, { name := "Kind_", type := 91, offset := 6, embedded := false, tag := "", pkgPath := "", byteOffset := 23 }, Tryd.underlying96, rfl, rfl, rfl⟩
instance : TFld Tryd.prog 96 7 7 := TFld.mk' (fl := { name := "Equal", type := 92, offset := 7, embedded := false, tag := "", pkgPath := "", byteOffset := 24 }) Tryd.underlying96 rfl (inferInstance : TI Tryd.prog 92 1 8 .nilFunc) (by decide)
instance : TFieldV Tryd.prog 96 7 92 7 := ⟨_, { name := "Equal", type := 92, offset := 7, embedded := false, tag := "", pkgPath := "", byteOffset := 24 }, Tryd.underlying96, rfl, rfl, rfl⟩
instance : TFld Tryd.prog 96 8 8 := TFld.mk' (fl := { name := "GCData", type := 93, offset := 8, embedded := false, tag := "", pkgPath := "", byteOffset := 32 }) Tryd.underlying96 rfl (inferInstance : TI Tryd.prog 93 1 8 (.pointer none)) (by decide)
instance : TFieldV Tryd.prog 96 8 93 8 := ⟨_, { name := "GCData", type := 93, offset := 8, embedded := false, tag := "", pkgPath := "", byteOffset := 32 }, Tryd.underlying96, rfl, rfl, rfl⟩
instance : TFld Tryd.prog 96 9 9 := TFld.mk' (fl := { name := "Str", type := 94, offset := 9, embedded := false, tag := "", pkgPath := "", byteOffset := 40 }) Tryd.underlying96 rfl (inferInstance : TI Tryd.prog 94 1 4 (.int .i32 0)) (by decide)
instance : TFieldV Tryd.prog 96 9 94 9 := ⟨_, { name := "Str", type := 94, offset := 9, embedded := false, tag := "", pkgPath := "", byteOffset := 40 }, Tryd.underlying96, rfl, rfl, rfl⟩
instance : TFld Tryd.prog 96 10 10 := TFld.mk' (fl := { name := "PtrToThis", type := 95, offset := 10, embedded := false, tag := "", pkgPath := "", byteOffset := 44 }) Tryd.underlying96 rfl (inferInstance : TI Tryd.prog 95 1 4 (.int .i32 0)) (by decide)
instance : TFieldV Tryd.prog 96 10 95 10 := ⟨_, { name := "PtrToThis", type := 95, offset := 10, embedded := false, tag := "", pkgPath := "", byteOffset := 44 }, Tryd.underlying96, rfl, rfl, rfl⟩
instance : TI Tryd.prog 97 11 48 (.agg #[(.int .u64 0), (.int .u64 0), (.int .u32 0), (.int .u8 0), (.int .u8 0), (.int .u8 0), (.int .u8 0), .nilFunc, (.pointer none), (.int .i32 0), (.int .i32 0)]) := TI.mk' (by kernel_rfl)
instance : TAggr Tryd.prog 97 := TAggr.mk' Tryd.underlying97 rfl
instance : TFld Tryd.prog 97 0 0 := TFld.mk' (fl := { name := "Size_", type := 12, offset := 0, embedded := false, tag := "", pkgPath := "", byteOffset := 0 }) Tryd.underlying97 rfl (inferInstance : TI Tryd.prog 12 1 8 (.int .u64 0)) (by decide)
instance : TFieldV Tryd.prog 97 0 12 0 := ⟨_, { name := "Size_", type := 12, offset := 0, embedded := false, tag := "", pkgPath := "", byteOffset := 0 }, Tryd.underlying97, rfl, rfl, rfl⟩
instance : TFld Tryd.prog 97 1 1 := TFld.mk' (fl := { name := "PtrBytes", type := 12, offset := 1, embedded := false, tag := "", pkgPath := "", byteOffset := 8 }) Tryd.underlying97 rfl (inferInstance : TI Tryd.prog 12 1 8 (.int .u64 0)) (by decide)
instance : TFieldV Tryd.prog 97 1 12 1 := ⟨_, { name := "PtrBytes", type := 12, offset := 1, embedded := false, tag := "", pkgPath := "", byteOffset := 8 }, Tryd.underlying97, rfl, rfl, rfl⟩
instance : TFld Tryd.prog 97 2 2 := TFld.mk' (fl := { name := "Hash", type := 71, offset := 2, embedded := false, tag := "", pkgPath := "", byteOffset := 16 }) Tryd.underlying97 rfl (inferInstance : TI Tryd.prog 71 1 4 (.int .u32 0)) (by decide)
instance : TFieldV Tryd.prog 97 2 71 2 := ⟨_, { name := "Hash", type := 71, offset := 2, embedded := false, tag := "", pkgPath := "", byteOffset := 16 }, Tryd.underlying97, rfl, rfl, rfl⟩
instance : TFld Tryd.prog 97 3 3 := TFld.mk' (fl := { name := "TFlag", type := 90, offset := 3, embedded := false, tag := "", pkgPath := "", byteOffset := 20 }) Tryd.underlying97 rfl (inferInstance : TI Tryd.prog 90 1 1 (.int .u8 0)) (by decide)
instance : TFieldV Tryd.prog 97 3 90 3 := ⟨_, { name := "TFlag", type := 90, offset := 3, embedded := false, tag := "", pkgPath := "", byteOffset := 20 }, Tryd.underlying97, rfl, rfl, rfl⟩
instance : TFld Tryd.prog 97 4 4 := TFld.mk' (fl := { name := "Align_", type := 5, offset := 4, embedded := false, tag := "", pkgPath := "", byteOffset := 21 }) Tryd.underlying97 rfl (inferInstance : TI Tryd.prog 5 1 1 (.int .u8 0)) (by decide)
instance : TFieldV Tryd.prog 97 4 5 4 := ⟨_, { name := "Align_", type := 5, offset := 4, embedded := false, tag := "", pkgPath := "", byteOffset := 21 }, Tryd.underlying97, rfl, rfl, rfl⟩
instance : TFld Tryd.prog 97 5 5 := TFld.mk' (fl := { name := "FieldAlign_", type := 5, offset := 5, embedded := false, tag := "", pkgPath := "", byteOffset := 22 }) Tryd.underlying97 rfl (inferInstance : TI Tryd.prog 5 1 1 (.int .u8 0)) (by decide)
instance : TFieldV Tryd.prog 97 5 5 5 := ⟨_, { name := "FieldAlign_", type := 5, offset := 5, embedded := false, tag := "", pkgPath := "", byteOffset := 22 }, Tryd.underlying97, rfl, rfl, rfl⟩
instance : TFld Tryd.prog 97 6 6 := TFld.mk' (fl := { name := "Kind_", type := 91, offset := 6, embedded := false, tag := "", pkgPath := "", byteOffset := 23 }) Tryd.underlying97 rfl (inferInstance : TI Tryd.prog 91 1 1 (.int .u8 0)) (by decide)
instance : TFieldV Tryd.prog 97 6 91 6 := ⟨_, { name := "Kind_", type := 91, offset := 6, embedded := false, tag := "", pkgPath := "", byteOffset := 23 }, Tryd.underlying97, rfl, rfl, rfl⟩
instance : TFld Tryd.prog 97 7 7 := TFld.mk' (fl := { name := "Equal", type := 92, offset := 7, embedded := false, tag := "", pkgPath := "", byteOffset := 24 }) Tryd.underlying97 rfl (inferInstance : TI Tryd.prog 92 1 8 .nilFunc) (by decide)
instance : TFieldV Tryd.prog 97 7 92 7 := ⟨_, { name := "Equal", type := 92, offset := 7, embedded := false, tag := "", pkgPath := "", byteOffset := 24 }, Tryd.underlying97, rfl, rfl, rfl⟩
instance : TFld Tryd.prog 97 8 8 := TFld.mk' (fl := { name := "GCData", type := 93, offset := 8, embedded := false, tag := "", pkgPath := "", byteOffset := 32 }) Tryd.underlying97 rfl (inferInstance : TI Tryd.prog 93 1 8 (.pointer none)) (by decide)
instance : TFieldV Tryd.prog 97 8 93 8 := ⟨_, { name := "GCData", type := 93, offset := 8, embedded := false, tag := "", pkgPath := "", byteOffset := 32 }, Tryd.underlying97, rfl, rfl, rfl⟩
instance : TFld Tryd.prog 97 9 9 := TFld.mk' (fl := { name := "Str", type := 94, offset := 9, embedded := false, tag := "", pkgPath := "", byteOffset := 40 }) Tryd.underlying97 rfl (inferInstance : TI Tryd.prog 94 1 4 (.int .i32 0)) (by decide)
instance : TFieldV Tryd.prog 97 9 94 9 := ⟨_, { name := "Str", type := 94, offset := 9, embedded := false, tag := "", pkgPath := "", byteOffset := 40 }, Tryd.underlying97, rfl, rfl, rfl⟩
instance : TFld Tryd.prog 97 10 10 := TFld.mk' (fl := { name := "PtrToThis", type := 95, offset := 10, embedded := false, tag := "", pkgPath := "", byteOffset := 44 }) Tryd.underlying97 rfl (inferInstance : TI Tryd.prog 95 1 4 (.int .i32 0)) (by decide)
instance : TFieldV Tryd.prog 97 10 95 10 := ⟨_, { name := "PtrToThis", type := 95, offset := 10, embedded := false, tag := "", pkgPath := "", byteOffset := 44 }, Tryd.underlying97, rfl, rfl, rfl⟩
instance : TI Tryd.prog 98 1 8 (.pointer none) := TI.mk' (by kernel_rfl)
instance : TScal Tryd.prog 98 := TScal.mk' Tryd.underlying98 rfl
instance : TBuild Tryd.prog 7 #[(.int .i64 0), (.int .i64 0), (.bool false), (.int .u8 0)] (fun i => (#[(0, 1), (1, 1), (2, 1), (3, 1)] : Array (Nat × Nat))[i]?) := TBuild.struct (places := #[(0, 1), (1, 1), (2, 1), (3, 1)]) Tryd.underlying7 (inferInstance : TI Tryd.prog 7 4 24 (.agg #[(.int .i64 0), (.int .i64 0), (.bool false), (.int .u8 0)])) (by kernel_rfl) (by kernel_rfl)
instance : TBuild Tryd.prog 8 #[(.int .i64 0), (.int .i64 0), (.bool false), (.int .u8 0)] (fun i => (#[(0, 1), (1, 1), (2, 1), (3, 1)] : Array (Nat × Nat))[i]?) := TBuild.struct (places := #[(0, 1), (1, 1), (2, 1), (3, 1)]) Tryd.underlying8 (inferInstance : TI Tryd.prog 8 4 24 (.agg #[(.int .i64 0), (.int .i64 0), (.bool false), (.int .u8 0)])) (by kernel_rfl) (by kernel_rfl)
instance : TBuild Tryd.prog 18 #[(.pointer none)] (fun i => (#[(0, 1)] : Array (Nat × Nat))[i]?) := TBuild.struct (places := #[(0, 1)]) Tryd.underlying18 (inferInstance : TI Tryd.prog 18 1 8 (.agg #[(.pointer none)])) (by kernel_rfl) (by kernel_rfl)
instance : TBuild Tryd.prog 19 #[(.pointer none)] (fun i => (#[(0, 1)] : Array (Nat × Nat))[i]?) := TBuild.struct (places := #[(0, 1)]) Tryd.underlying19 (inferInstance : TI Tryd.prog 19 1 8 (.agg #[(.pointer none)])) (by kernel_rfl) (by kernel_rfl)
instance : TBuild Tryd.prog 25 #[(.int .i64 0), (.slice none 0 0)] (fun i => (#[(0, 1), (1, 1)] : Array (Nat × Nat))[i]?) := TBuild.struct (places := #[(0, 1), (1, 1)]) Tryd.underlying25 (inferInstance : TI Tryd.prog 25 2 32 (.agg #[(.int .i64 0), (.slice none 0 0)])) (by kernel_rfl) (by kernel_rfl)
instance : TBuild Tryd.prog 26 #[(.int .i64 0), (.slice none 0 0)] (fun i => (#[(0, 1), (1, 1)] : Array (Nat × Nat))[i]?) := TBuild.struct (places := #[(0, 1), (1, 1)]) Tryd.underlying26 (inferInstance : TI Tryd.prog 26 2 32 (.agg #[(.int .i64 0), (.slice none 0 0)])) (by kernel_rfl) (by kernel_rfl)
instance : TBuild Tryd.prog 43 #[(.int .i32 0), (.int .i32 0)] (fun i => some (i * 1, 1)) := TBuild.array Tryd.underlying43 (inferInstance : TI Tryd.prog 43 2 8 (.agg #[(.int .i32 0), (.int .i32 0)])) (inferInstance : TI Tryd.prog 21 1 4 (.int .i32 0))
instance : TBuild Tryd.prog 68 #[(.int .i64 0), (.int .i64 0)] (fun i => some (i * 1, 1)) := TBuild.array Tryd.underlying68 (inferInstance : TI Tryd.prog 68 2 16 (.agg #[(.int .i64 0), (.int .i64 0)])) (inferInstance : TI Tryd.prog 3 1 8 (.int .i64 0))
instance : TBuild Tryd.prog 75 #[(.int .u8 0), (.int .u8 0), (.int .u8 0), (.int .u8 0), (.int .u8 0), (.int .u8 0), (.int .u8 0), (.int .u8 0), (.int .u8 0), (.int .u8 0), (.int .u8 0), (.int .u8 0), (.int .u8 0), (.int .u8 0), (.int .u8 0), (.int .u8 0), (.int .u8 0), (.int .u8 0), (.int .u8 0), (.int .u8 0), (.int .u8 0), (.int .u8 0), (.int .u8 0), (.int .u8 0), (.int .u8 0), (.int .u8 0), (.int .u8 0), (.int .u8 0), (.int .u8 0), (.int .u8 0), (.int .u8 0), (.int .u8 0)] (fun i => some (i * 1, 1)) := TBuild.array Tryd.underlying75 (inferInstance : TI Tryd.prog 75 32 32 (.agg #[(.int .u8 0), (.int .u8 0), (.int .u8 0), (.int .u8 0), (.int .u8 0), (.int .u8 0), (.int .u8 0), (.int .u8 0), (.int .u8 0), (.int .u8 0), (.int .u8 0), (.int .u8 0), (.int .u8 0), (.int .u8 0), (.int .u8 0), (.int .u8 0), (.int .u8 0), (.int .u8 0), (.int .u8 0), (.int .u8 0), (.int .u8 0), (.int .u8 0), (.int .u8 0), (.int .u8 0), (.int .u8 0), (.int .u8 0), (.int .u8 0), (.int .u8 0), (.int .u8 0), (.int .u8 0), (.int .u8 0), (.int .u8 0)])) (inferInstance : TI Tryd.prog 5 1 1 (.int .u8 0))
instance : TBuild Tryd.prog 76 #[(.int .u8 0), (.int .u8 0), (.int .u8 0), (.int .u8 0), (.int .u8 0), (.int .u8 0), (.int .u8 0), (.int .u8 0), (.int .u8 0), (.int .u8 0), (.int .u8 0), (.int .u8 0), (.int .u8 0), (.int .u8 0), (.int .u8 0), (.int .u8 0), (.int .u8 0), (.int .u8 0), (.int .u8 0), (.int .u8 0), (.int .u8 0), (.int .u8 0), (.int .u8 0), (.int .u8 0), (.int .u8 0), (.int .u8 0), (.int .u8 0), (.int .u8 0), (.int .u8 0), (.int .u8 0), (.int .u8 0), (.int .u8 0), (.int .u8 0), (.int .u8 0), (.int .u8 0), (.int .u8 0), (.int .u8 0), (.int .u8 0), (.int .u8 0), (.int .u8 0), (.int .u8 0), (.int .u8 0), (.int .u8 0), (.int .u8 0), (.int .u8 0), (.int .u8 0), (.int .u8 0), (.int .u8 0), (.int .u8 0), (.int .u8 0), (.int .u8 0), (.int .u8 0), (.int .u8 0), (.int .u8 0), (.int .u8 0), (.int .u8 0), (.int .u8 0), (.int .u8 0), (.int .u8 0), (.int .u8 0), (.int .u8 0), (.int .u8 0), (.int .u8 0), (.int .u8 0)] (fun i => some (i * 1, 1)) := TBuild.array Tryd.underlying76 (inferInstance : TI Tryd.prog 76 64 64 (.agg #[(.int .u8 0), (.int .u8 0), (.int .u8 0), (.int .u8 0), (.int .u8 0), (.int .u8 0), (.int .u8 0), (.int .u8 0), (.int .u8 0), (.int .u8 0), (.int .u8 0), (.int .u8 0), (.int .u8 0), (.int .u8 0), (.int .u8 0), (.int .u8 0), (.int .u8 0), (.int .u8 0), (.int .u8 0), (.int .u8 0), (.int .u8 0), (.int .u8 0), (.int .u8 0), (.int .u8 0), (.int .u8 0), (.int .u8 0), (.int .u8 0), (.int .u8 0), (.int .u8 0), (.int .u8 0), (.int .u8 0), (.int .u8 0), (.int .u8 0), (.int .u8 0), (.int .u8 0), (.int .u8 0), (.int .u8 0), (.int .u8 0), (.int .u8 0), (.int .u8 0), (.int .u8 0), (.int .u8 0), (.int .u8 0), (.int .u8 0), (.int .u8 0), (.int .u8 0), (.int .u8 0), (.int .u8 0), (.int .u8 0), (.int .u8 0), (.int .u8 0), (.int .u8 0), (.int .u8 0), (.int .u8 0), (.int .u8 0), (.int .u8 0), (.int .u8 0), (.int .u8 0), (.int .u8 0), (.int .u8 0), (.int .u8 0), (.int .u8 0), (.int .u8 0), (.int .u8 0)])) (inferInstance : TI Tryd.prog 5 1 1 (.int .u8 0))
instance : TBuild Tryd.prog 96 #[(.int .u64 0), (.int .u64 0), (.int .u32 0), (.int .u8 0), (.int .u8 0), (.int .u8 0), (.int .u8 0), .nilFunc, (.pointer none), (.int .i32 0), (.int .i32 0)] (fun i => (#[(0, 1), (1, 1), (2, 1), (3, 1), (4, 1), (5, 1), (6, 1), (7, 1), (8, 1), (9, 1), (10, 1)] : Array (Nat × Nat))[i]?) := TBuild.struct (places := #[(0, 1), (1, 1), (2, 1), (3, 1), (4, 1), (5, 1), (6, 1), (7, 1), (8, 1), (9, 1), (10, 1)]) Tryd.underlying96 (inferInstance : TI Tryd.prog 96 11 48 (.agg #[(.int .u64 0), (.int .u64 0), (.int .u32 0), (.int .u8 0), (.int .u8 0), (.int .u8 0), (.int .u8 0), .nilFunc, (.pointer none), (.int .i32 0), (.int .i32 0)])) (by kernel_rfl) (by kernel_rfl)
instance : TBuild Tryd.prog 97 #[(.int .u64 0), (.int .u64 0), (.int .u32 0), (.int .u8 0), (.int .u8 0), (.int .u8 0), (.int .u8 0), .nilFunc, (.pointer none), (.int .i32 0), (.int .i32 0)] (fun i => (#[(0, 1), (1, 1), (2, 1), (3, 1), (4, 1), (5, 1), (6, 1), (7, 1), (8, 1), (9, 1), (10, 1)] : Array (Nat × Nat))[i]?) := TBuild.struct (places := #[(0, 1), (1, 1), (2, 1), (3, 1), (4, 1), (5, 1), (6, 1), (7, 1), (8, 1), (9, 1), (10, 1)]) Tryd.underlying97 (inferInstance : TI Tryd.prog 97 11 48 (.agg #[(.int .u64 0), (.int .u64 0), (.int .u32 0), (.int .u8 0), (.int .u8 0), (.int .u8 0), (.int .u8 0), .nilFunc, (.pointer none), (.int .i32 0), (.int .i32 0)])) (by kernel_rfl) (by kernel_rfl)
instance : Body Tryd.prog 3 := Body.mk' Tryd.func3 (by kernel_rfl) rfl   -- penumbra/penumbralaw04.PlaneMoves
instance : Body Tryd.prog 4 := Body.mk' Tryd.func4 (by kernel_rfl) rfl   -- penumbra/penumbralaw04.PlaneThereBack
instance : Body Tryd.prog 5 := Body.mk' Tryd.func5 (by kernel_rfl) rfl   -- penumbra/penumbralaw04.alive
instance : Body Tryd.prog 6 := Body.mk' Tryd.func6 (by kernel_rfl) rfl   -- penumbra/penumbralaw04.wholes
instance : Body Tryd.prog 7 := Body.mk' Tryd.func7 (by kernel_rfl) rfl   -- penumbra/plane.Forward
instance : Body Tryd.prog 8 := Body.mk' Tryd.func8 (by kernel_rfl) rfl   -- penumbra/penumbraref02.Root
instance : Body Tryd.prog 9 := Body.mk' Tryd.func9 (by kernel_rfl) rfl   -- penumbra/penumbraref01.Mul
instance : Body Tryd.prog 10 := Body.mk' Tryd.func10 (by kernel_rfl) rfl   -- penumbra/penumbraref01.Conj
instance : Body Tryd.prog 11 := Body.mk' Tryd.func11 (by kernel_rfl) rfl   -- penumbra/penumbralaw04.near
instance : Body Tryd.prog 12 := Body.mk' Tryd.func12 (by kernel_rfl) rfl   -- penumbra/penumbralaw04.copied
instance : Body Tryd.prog 13 := Body.mk' Tryd.func13 (by kernel_rfl) rfl   -- penumbra/plane.Back
instance : Body Tryd.prog 14 := Body.mk' Tryd.func14 (by kernel_rfl) rfl   -- penumbra/penumbraref01.AlikeList
instance : Body Tryd.prog 15 := Body.mk' Tryd.func15 (by kernel_rfl) rfl   -- penumbra/wave.Whole
instance : Body Tryd.prog 16 := Body.mk' Tryd.func16 (by kernel_rfl) rfl   -- penumbra/penumbraref01.Add
instance : Body Tryd.prog 17 := Body.mk' Tryd.func17 (by kernel_rfl) rfl   -- penumbra/plane.Across
instance : Body Tryd.prog 18 := Body.mk' Tryd.func18 (by kernel_rfl) rfl   -- penumbra/plane.both
instance : Body Tryd.prog 19 := Body.mk' Tryd.func19 (by kernel_rfl) rfl   -- penumbra/wave.Forward
instance : Body Tryd.prog 20 := Body.mk' Tryd.func20 (by kernel_rfl) rfl   -- penumbra/penumbraref02.Length
instance : Body Tryd.prog 21 := Body.mk' Tryd.func21 (by kernel_rfl) rfl   -- penumbra/penumbraref02.At
instance : Body Tryd.prog 22 := Body.mk' Tryd.func22 (by kernel_rfl) rfl   -- penumbra/penumbraref01.turned
instance : Body Tryd.prog 23 := Body.mk' Tryd.func23 (by kernel_rfl) rfl   -- penumbra/penumbraref01.Far
instance : Body Tryd.prog 24 := Body.mk' Tryd.func24 (by kernel_rfl) rfl   -- penumbra/wave.Back
instance : Body Tryd.prog 25 := Body.mk' Tryd.func25 (by kernel_rfl) rfl   -- penumbra/cx.Plain
instance : Body Tryd.prog 27 := Body.mk' Tryd.func27 (by kernel_rfl) rfl   -- penumbra/plane.right
instance : Body Tryd.prog 28 := Body.mk' Tryd.func28 (by kernel_rfl) rfl   -- penumbra/plane.lanes
instance : Body Tryd.prog 29 := Body.mk' Tryd.func29 (by kernel_rfl) rfl   -- penumbra/root.Table
instance : Body Tryd.prog 30 := Body.mk' Tryd.func30 (by kernel_rfl) rfl   -- penumbra/wave.turned
instance : Body Tryd.prog 31 := Body.mk' Tryd.func31 (by kernel_rfl) rfl   -- penumbra/wave.butterflies
instance : Body Tryd.prog 32 := Body.mk' Tryd.func32 (by kernel_rfl) rfl   -- penumbra/wave.conjugates
instance : Body Tryd.prog 33 := Body.mk' Tryd.func33 (by kernel_rfl) rfl   -- penumbra/penumbraref01.Plain
instance : Body Tryd.prog 34 := Body.mk' Tryd.func34 (by kernel_rfl) rfl   -- penumbra/penumbraref01.Turn
instance : Body Tryd.prog 35 := Body.mk' Tryd.func35 (by kernel_rfl) rfl   -- penumbra/penumbraref02.step
instance : Body Tryd.prog 38 := Body.mk' Tryd.func38 (by kernel_rfl) rfl   -- penumbra/penumbraref01.Size
instance : Body Tryd.prog 39 := Body.mk' Tryd.func39 (by kernel_rfl) rfl   -- penumbra/penumbraref01.Sub
instance : Body Tryd.prog 40 := Body.mk' Tryd.func40 (by kernel_rfl) rfl   -- math/bits.TrailingZeros
instance : Body Tryd.prog 41 := Body.mk' Tryd.func41 (by kernel_rfl) rfl   -- penumbra/cx.Scale
instance : Body Tryd.prog 42 := Body.mk' Tryd.func42 (by kernel_rfl) rfl   -- penumbra/cx.each
instance : Body Tryd.prog 43 := Body.mk' Tryd.func43 (by kernel_rfl) rfl   -- penumbra/cx.Plain$1
instance : Body Tryd.prog 44 := Body.mk' Tryd.func44 (by kernel_rfl) rfl   -- penumbra/root.right
instance : Body Tryd.prog 45 := Body.mk' Tryd.func45 (by kernel_rfl) rfl   -- penumbra/root.eighth
instance : Body Tryd.prog 46 := Body.mk' Tryd.func46 (by kernel_rfl) rfl   -- penumbra/root.at
instance : Body Tryd.prog 47 := Body.mk' Tryd.func47 (by kernel_rfl) rfl   -- math/bits.Reverse64
instance : Body Tryd.prog 48 := Body.mk' Tryd.func48 (by kernel_rfl) rfl   -- penumbra/cx.Mul
instance : Body Tryd.prog 49 := Body.mk' Tryd.func49 (by kernel_rfl) rfl   -- penumbra/cx.Add
instance : Body Tryd.prog 50 := Body.mk' Tryd.func50 (by kernel_rfl) rfl   -- penumbra/cx.Sub
instance : Body Tryd.prog 51 := Body.mk' Tryd.func51 (by kernel_rfl) rfl   -- penumbra/cx.Conj
instance : Body Tryd.prog 52 := Body.mk' Tryd.func52 (by kernel_rfl) rfl   -- penumbra/penumbraref01.plain
instance : Body Tryd.prog 53 := Body.mk' Tryd.func53 (by kernel_rfl) rfl   -- math.Sqrt
instance : Body Tryd.prog 54 := Body.mk' Tryd.func54 (by kernel_rfl) rfl   -- math.Abs
instance : Body Tryd.prog 55 := Body.mk' Tryd.func55 (by kernel_rfl) rfl   -- math.NaN
instance : Body Tryd.prog 56 := Body.mk' Tryd.func56 (by kernel_rfl) rfl   -- math/bits.TrailingZeros32
instance : Body Tryd.prog 57 := Body.mk' Tryd.func57 (by kernel_rfl) rfl   -- math/bits.TrailingZeros64
instance : Body Tryd.prog 58 := Body.mk' Tryd.func58 (by kernel_rfl) rfl   -- penumbra/cx.Scale$1
instance : Body Tryd.prog 59 := Body.mk' Tryd.func59 (by kernel_rfl) rfl   -- math.Ldexp
instance : Body Tryd.prog 60 := Body.mk' Tryd.func60 (by kernel_rfl) rfl   -- penumbra/root.step
instance : Body Tryd.prog 61 := Body.mk' Tryd.func61 (by kernel_rfl) rfl   -- penumbra/root.quarter
instance : Body Tryd.prog 62 := Body.mk' Tryd.func62 (by kernel_rfl) rfl   -- penumbra/cx.Turn
instance : Body Tryd.prog 63 := Body.mk' Tryd.func63 (by kernel_rfl) rfl   -- math/bits.ReverseBytes64
instance : Body Tryd.prog 64 := Body.mk' Tryd.func64 (by kernel_rfl) rfl   -- penumbra/cx.flip
instance : Body Tryd.prog 67 := Body.mk' Tryd.func67 (by kernel_rfl) rfl   -- math.ldexp
instance : Body Tryd.prog 68 := Body.mk' Tryd.func68 (by kernel_rfl) rfl   -- math.Copysign
instance : Body Tryd.prog 69 := Body.mk' Tryd.func69 (by kernel_rfl) rfl   -- math.IsInf
instance : Body Tryd.prog 70 := Body.mk' Tryd.func70 (by kernel_rfl) rfl   -- math.IsNaN
instance : Body Tryd.prog 71 := Body.mk' Tryd.func71 (by kernel_rfl) rfl   -- math.normalize
instance : Body Tryd.prog 72 := Body.mk' Tryd.func72 (by kernel_rfl) rfl   -- math.Inf
end Go.Proofs.YthecbhegjdcjfaaDoor
end
section
/- The pen's rules, more: a row that grows, and that may be nil. -/
set_option linter.unusedVariables false
set_option linter.unusedSimpArgs false
namespace Go.Pen

/-- A row's slice; nil while it is empty. -/
def rowV (len b cap : Nat) : Value := match len with | 0 => .slice none 0 0 | _ + 1 => .slice (some ⟨b, 0, none⟩) len cap
def rowM (len b : Nat) (xs sp : List Value) (e : TypeId) : List (Nat × Obj) := match len with | 0 => [] | _ + 1 => [(b, .cells (xs ++ sp).toArray e (0, 0))]

section
variable {P : Program} {n : Nat} {B : World} {I : List Nat} {Γ Γ1 Γ2 : List (Nat × Obj)} {ρ : Env} {ops : Array Oper} {md : Bool} {K : List (Nat × Obj) → Env → Prop}
  {d : Nat} {ty : TypeId} {pos : String} {af : Array Edge} {t e t' : TypeId} {x y : Operand} {b i : Nat} {v : Value} {k : IntKind}

theorem OP.lenRow {len cap : Nat} {tys : Array TypeId} [hS : TSlice P t e] (hd : Nat.blt d n = true) (ht : tys = #[t]) (hx : ev ρ x = rowV len b cap) (h : K Γ (upd ρ d (.int .i64 (len : Int)))) :
    OP P n B I Γ md ops ⟨some d, .call ⟨.builtin .len, #[x], tys⟩, ty, pos, af, none⟩ K ρ := by
  cases len with
  | zero => exact OP.len hd ht hx h
  | succ m => exact OP.len hd ht hx h

/-- 'append(s, v)', v in a row of one that was made for it. -/
theorem OP.push {m bytes : Nat} {z : Value} {len cap : Nat} {xb xc : Nat} {cs : Array Value} {tys : Array TypeId} {xs sp vs : List Value} [hS : TSlice P t e] [hI : TI P e m bytes z]
    (hK : ∀ Γ Γ' ρ, Γ'.Sublist Γ → K Γ' ρ → K Γ ρ)
    (hd : Nat.blt d n = true) (ht : tys = #[t, t]) (hz : z.cells.size = m) (hx : ev ρ x = rowV len b cap) (hy : ev ρ y = .slice (some ⟨xb, 0, none⟩) 1 xc)
    (hcs : readN cs 0 m = some vs) (h1 : (vs.all (·.oneCell')) = true)
    (hxl : xs.length = len * m) (hsp : len = 0 ∨ xs.length + sp.length = cap * m)
    (hby : (len + 1) * bytes ≤ 140737488355328) (h63 : len + 1 ≤ 9223372036854775807)
    (h : ∀ b' sp' cap', (len + 1 = 0 ∨ (xs ++ vs).length + sp'.length = cap' * m) → K (rowM (len + 1) b' (xs ++ vs) sp' e ++ Γ2) (upd ρ d (rowV (len + 1) b' cap'))) :
    OP P n B I ((xb, .cells cs e (0, 0)) :: (rowM len b xs sp e ++ Γ2)) false ops ⟨some d, .call ⟨.builtin .append, #[x, y], tys⟩, ty, pos, af, none⟩ K ρ := by
  have hvl : vs.length = m := (readN_spec hcs).1
  have h1' : ∀ u ∈ vs, u.oneCell' = true := List.all_eq_true.1 h1
  cases len with
  | zero =>
    have hx0 : xs = [] := List.length_eq_zero_iff.1 (by simpa using hxl)
    subst hx0
    simp only [rowM, List.nil_append] at h ⊢
    refine OP.appendNil (vs := vs) hd ht hz hx hy (SeesN.own m (List.Mem.head _) hcs) (by rw [hvl, Nat.one_mul]) (by decide) (by omega) (by omega) (fun b' sp' sc' hl hc => ?_)
    exact hK _ _ _ (List.Sublist.cons_cons _ (List.sublist_cons_self _ _)) (h b' sp' sc' (.inr hl))
  | succ l =>
    rcases hsp with hsp | hsp
    · cases hsp
    simp only [rowM, List.cons_append, List.nil_append] at h ⊢
    refine OP.appendP (Γ1 := [(xb, .cells cs e (0, 0))]) (vs := vs) hd ht hz hx hy hxl hsp (SeesN.own m (List.Mem.head _) hcs) (by rw [hvl, Nat.one_mul]) h1' hby h63 (fun b' sp' sc' hl hc => ?_)
    exact hK _ _ _ (List.sublist_cons_self _ _) (h b' sp' sc' (.inr hl))
/-- What is known with less memory, or in another order, is known with more. -/
abbrev Slack (K : List (Nat × Obj) → Env → Prop) : Prop := ∀ Γ Δ Γ' ρ, Γ.Perm Δ → Γ'.Sublist Δ → K Γ' ρ → K Γ ρ
theorem WL.slack {rest : List Oper} {Q : Post} : Slack (fun Γ' ρ' => WL P n B I Γ' false ops rest Q ρ') := fun _ _ _ _ hp hs h => WL.perm hp (WL.drop hs h)
theorem OP.permIn {Γ' : List (Nat × Obj)} {o : Oper} (hK : Slack K) (hp : Γ.Perm Γ') (h : OP P n B I Γ' false ops o K ρ) : OP P n B I Γ false ops o K ρ :=
  ⟨fun a h1 h2 h3 hw w h4 K' Q' hK => h.yes a h1 h2 h3 hw w (h4.perm hp) K' Q' hK, fun a h1 h2 h3 hw => hK _ _ _ _ hp (List.Sublist.refl _) (h.no a h1 h2 h3 hw)⟩
theorem OP.mono {o : Oper} {K' : List (Nat × Obj) → Env → Prop} (hK : ∀ Γ ρ, K' Γ ρ → K Γ ρ) (h : OP P n B I Γ false ops o K' ρ) : OP P n B I Γ false ops o K ρ :=
  ⟨fun a h1 h2 h3 hw w h4 K'' Q' hKK => h.yes a h1 h2 h3 hw w h4 K'' Q' (fun a' w' Γ' g1 g2 g3 g4 => hKK a' w' Γ' g1 g2 g3 (hK _ _ g4)), fun a h1 h2 h3 hw => hK _ _ (h.no a h1 h2 h3 hw)⟩
/-- OP.push where the row stands behind other blocks. -/
theorem OP.pushP {m bytes : Nat} {z : Value} {len cap : Nat} {xb xc : Nat} {cs : Array Value} {tys : Array TypeId} {xs sp vs : List Value} [hS : TSlice P t e] [hI : TI P e m bytes z]
    (hK : Slack K)
    (hd : Nat.blt d n = true) (ht : tys = #[t, t]) (hz : z.cells.size = m) (hx : ev ρ x = rowV len b cap) (hy : ev ρ y = .slice (some ⟨xb, 0, none⟩) 1 xc)
    (hcs : readN cs 0 m = some vs) (h1 : (vs.all (·.oneCell')) = true)
    (hxl : xs.length = len * m) (hsp : len = 0 ∨ xs.length + sp.length = cap * m)
    (hby : (len + 1) * bytes ≤ 140737488355328) (h63 : len + 1 ≤ 9223372036854775807)
    (h : ∀ b' sp' cap', (len + 1 = 0 ∨ (xs ++ vs).length + sp'.length = cap' * m) → K (Γ1 ++ (rowM (len + 1) b' (xs ++ vs) sp' e ++ Γ2)) (upd ρ d (rowV (len + 1) b' cap'))) :
    OP P n B I ((xb, .cells cs e (0, 0)) :: (Γ1 ++ (rowM len b xs sp e ++ Γ2))) false ops ⟨some d, .call ⟨.builtin .append, #[x, y], tys⟩, ty, pos, af, none⟩ K ρ := by
  refine OP.permIn hK (List.Perm.cons _ (List.perm_append_comm_assoc _ _ _)) (OP.push (Γ2 := Γ1 ++ Γ2) (fun Γ Γ' ρ hs h => hK _ _ _ _ (List.Perm.refl _) hs h) hd ht hz hx hy hcs h1 hxl hsp hby h63 fun b' sp' cap' hl => ?_)
  exact hK _ _ _ _ (List.perm_append_comm_assoc _ _ _) (List.Sublist.refl _) (h b' sp' cap' hl)
end
end Go.Pen
end
