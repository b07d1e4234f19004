/- Facts of types and functions of the given program, out of its translation's tables, each by the kernel's own reckoning. No condition. -/
import Derived.Test.YtgklapdlambdlaaProg
import Derived.KernelRfl
import Derived.Test.YtgklapdlambdlaaSym
namespace Go.Proofs.Ytgklapdlambdlaa
open Go.RowKit

instance : I64Ty Try.prog 2 := ⟨by kernel_rfl⟩
instance : OneTy Try.prog 2 := ⟨fun _ => by kernel_rfl, fun _ => by kernel_rfl⟩
instance : ElemTy Try.prog 2 (.int .i64 0) 1 8 := ⟨by kernel_rfl, rfl, by omega⟩
instance : I64Ty Try.prog 3 := ⟨by kernel_rfl⟩
instance : OneTy Try.prog 3 := ⟨fun _ => by kernel_rfl, fun _ => by kernel_rfl⟩
instance : ElemTy Try.prog 3 (.int .i64 0) 1 8 := ⟨by kernel_rfl, rfl, by omega⟩
instance : BoolTy Try.prog 4 := ⟨by kernel_rfl⟩
instance : OneTy Try.prog 4 := ⟨fun _ => by kernel_rfl, fun _ => by kernel_rfl⟩
instance : ElemTy Try.prog 4 (.bool false) 1 1 := ⟨by kernel_rfl, rfl, by omega⟩
instance : U8Ty Try.prog 5 := ⟨by kernel_rfl⟩
instance : OneTy Try.prog 5 := ⟨fun _ => by kernel_rfl, fun _ => by kernel_rfl⟩
instance : ElemTy Try.prog 5 (.int .u8 0) 1 1 := ⟨by kernel_rfl, rfl, by omega⟩
instance : OneTy Try.prog 12 := ⟨fun _ => by kernel_rfl, fun _ => by kernel_rfl⟩
instance : ElemTy Try.prog 12 (.int .u64 0) 1 8 := ⟨by kernel_rfl, rfl, by omega⟩
instance : OneTy Try.prog 21 := ⟨fun _ => by kernel_rfl, fun _ => by kernel_rfl⟩
instance : ElemTy Try.prog 21 (.int .i32 0) 1 4 := ⟨by kernel_rfl, rfl, by omega⟩
instance : SliceTy Try.prog 24 5 := ⟨by kernel_rfl⟩
instance : OneTy Try.prog 24 := ⟨fun _ => by kernel_rfl, fun _ => by kernel_rfl⟩
instance : ElemTy Try.prog 24 (.slice none 0 0) 1 24 := ⟨by kernel_rfl, rfl, by omega⟩
instance : SliceTy Try.prog 28 43 := ⟨by kernel_rfl⟩
instance : OneTy Try.prog 28 := ⟨fun _ => by kernel_rfl, fun _ => by kernel_rfl⟩
instance : ElemTy Try.prog 28 (.slice none 0 0) 1 24 := ⟨by kernel_rfl, rfl, by omega⟩
instance : SliceTy Try.prog 31 64 := ⟨by kernel_rfl⟩
instance : OneTy Try.prog 31 := ⟨fun _ => by kernel_rfl, fun _ => by kernel_rfl⟩
instance : ElemTy Try.prog 31 (.slice none 0 0) 1 24 := ⟨by kernel_rfl, rfl, by omega⟩
instance : SliceTy Try.prog 38 3 := ⟨by kernel_rfl⟩
instance : OneTy Try.prog 38 := ⟨fun _ => by kernel_rfl, fun _ => by kernel_rfl⟩
instance : ElemTy Try.prog 38 (.slice none 0 0) 1 24 := ⟨by kernel_rfl, rfl, by omega⟩
instance : AggTy Try.prog 42 3 := ⟨fun _ => by kernel_rfl, fun _ => by kernel_rfl⟩
instance : ElemTy Try.prog 42 (.agg #[.int .i64 0, .int .i64 0, .int .i64 0]) 3 24 := ⟨by kernel_rfl, rfl, by omega⟩
instance : FieldTy Try.prog 42 0 0 := ⟨fun _ _ => by kernel_rfl⟩
instance : FieldTy Try.prog 42 1 1 := ⟨fun _ _ => by kernel_rfl⟩
instance : FieldTy Try.prog 42 2 2 := ⟨fun _ _ => by kernel_rfl⟩
instance : BuildTy Try.prog 42 [(0, 1), (1, 1), (2, 1)] [.int .i64 0, .int .i64 0, .int .i64 0] := ⟨fun _ => by kernel_rfl, ⟨_, Try.underlying42, fun _ => by kernel_rfl⟩⟩
instance : AggTy Try.prog 43 3 := ⟨fun _ => by kernel_rfl, fun _ => by kernel_rfl⟩
instance : ElemTy Try.prog 43 (.agg #[.int .i64 0, .int .i64 0, .int .i64 0]) 3 24 := ⟨by kernel_rfl, rfl, by omega⟩
instance : FieldTy Try.prog 43 0 0 := ⟨fun _ _ => by kernel_rfl⟩
instance : FieldTy Try.prog 43 1 1 := ⟨fun _ _ => by kernel_rfl⟩
instance : FieldTy Try.prog 43 2 2 := ⟨fun _ _ => by kernel_rfl⟩
instance : BuildTy Try.prog 43 [(0, 1), (1, 1), (2, 1)] [.int .i64 0, .int .i64 0, .int .i64 0] := ⟨fun _ => by kernel_rfl, ⟨_, Try.underlying43, fun _ => by kernel_rfl⟩⟩
instance : OneTy Try.prog 59 := ⟨fun _ => by kernel_rfl, fun _ => by kernel_rfl⟩
instance : ElemTy Try.prog 59 (.pointer none) 1 8 := ⟨by kernel_rfl, rfl, by omega⟩
instance : AggTy Try.prog 64 3 := ⟨fun _ => by kernel_rfl, fun _ => by kernel_rfl⟩
instance : ElemTy Try.prog 64 (.agg #[.int .i64 0, .int .i64 0, .int .i64 0]) 3 24 := ⟨by kernel_rfl, rfl, by omega⟩
instance : FieldTy Try.prog 64 0 0 := ⟨fun _ _ => by kernel_rfl⟩
instance : FieldTy Try.prog 64 1 1 := ⟨fun _ _ => by kernel_rfl⟩
instance : FieldTy Try.prog 64 2 2 := ⟨fun _ _ => by kernel_rfl⟩
instance : BuildTy Try.prog 64 [(0, 1), (1, 1), (2, 1)] [.int .i64 0, .int .i64 0, .int .i64 0] := ⟨fun _ => by kernel_rfl, ⟨_, Try.underlying64, fun _ => by kernel_rfl⟩⟩
instance : AggTy Try.prog 70 2 := ⟨fun _ => by kernel_rfl, fun _ => by kernel_rfl⟩
instance : ElemTy Try.prog 70 (.agg #[.slice none 0 0, .int .i64 0]) 2 32 := ⟨by kernel_rfl, rfl, by omega⟩
instance : FieldTy Try.prog 70 0 0 := ⟨fun _ _ => by kernel_rfl⟩
instance : FieldTy Try.prog 70 1 1 := ⟨fun _ _ => by kernel_rfl⟩
instance : BuildTy Try.prog 70 [(0, 1), (1, 1)] [.slice none 0 0, .int .i64 0] := ⟨fun _ => by kernel_rfl, ⟨_, Try.underlying70, fun _ => by kernel_rfl⟩⟩
instance : AggTy Try.prog 71 2 := ⟨fun _ => by kernel_rfl, fun _ => by kernel_rfl⟩
instance : ElemTy Try.prog 71 (.agg #[.slice none 0 0, .int .i64 0]) 2 32 := ⟨by kernel_rfl, rfl, by omega⟩
instance : FieldTy Try.prog 71 0 0 := ⟨fun _ _ => by kernel_rfl⟩
instance : FieldTy Try.prog 71 1 1 := ⟨fun _ _ => by kernel_rfl⟩
instance : BuildTy Try.prog 71 [(0, 1), (1, 1)] [.slice none 0 0, .int .i64 0] := ⟨fun _ => by kernel_rfl, ⟨_, Try.underlying71, fun _ => by kernel_rfl⟩⟩
instance : OneTy Try.prog 83 := ⟨fun _ => by kernel_rfl, fun _ => by kernel_rfl⟩
instance : ElemTy Try.prog 83 (.int .u32 0) 1 4 := ⟨by kernel_rfl, rfl, by omega⟩
instance : OneTy Try.prog 87 := ⟨fun _ => by kernel_rfl, fun _ => by kernel_rfl⟩
instance : ElemTy Try.prog 87 (.pointer none) 1 8 := ⟨by kernel_rfl, rfl, by omega⟩
instance : FnOk Try.prog 3 := ⟨fun _ _ => by kernel_rfl⟩
instance : FnOk Try.prog 4 := ⟨fun _ _ => by kernel_rfl⟩
instance : FnOk Try.prog 5 := ⟨fun _ _ => by kernel_rfl⟩
instance : FnOk Try.prog 6 := ⟨fun _ _ => by kernel_rfl⟩
instance : FnOk Try.prog 7 := ⟨fun _ _ => by kernel_rfl⟩
instance : FnOk Try.prog 8 := ⟨fun _ _ => by kernel_rfl⟩
instance : FnOk Try.prog 9 := ⟨fun _ _ => by kernel_rfl⟩
instance : FnOk Try.prog 10 := ⟨fun _ _ => by kernel_rfl⟩
instance : FnOk Try.prog 11 := ⟨fun _ _ => by kernel_rfl⟩
instance : FnOk Try.prog 12 := ⟨fun _ _ => by kernel_rfl⟩
instance : FnOk Try.prog 13 := ⟨fun _ _ => by kernel_rfl⟩
instance : FnOk Try.prog 14 := ⟨fun _ _ => by kernel_rfl⟩
instance : FnOk Try.prog 15 := ⟨fun _ _ => by kernel_rfl⟩
instance : FnOk Try.prog 16 := ⟨fun _ _ => by kernel_rfl⟩
instance : FnOk Try.prog 17 := ⟨fun _ _ => by kernel_rfl⟩
instance : FnOk Try.prog 18 := ⟨fun _ _ => by kernel_rfl⟩
instance : FnOk Try.prog 19 := ⟨fun _ _ => by kernel_rfl⟩
instance : FnOk Try.prog 20 := ⟨fun _ _ => by kernel_rfl⟩
instance : FnOk Try.prog 21 := ⟨fun _ _ => by kernel_rfl⟩
instance : FnOk Try.prog 22 := ⟨fun _ _ => by kernel_rfl⟩
instance : FnOk Try.prog 23 := ⟨fun _ _ => by kernel_rfl⟩
instance : FnOk Try.prog 24 := ⟨fun _ _ => by kernel_rfl⟩
instance : FnOk Try.prog 25 := ⟨fun _ _ => by kernel_rfl⟩
instance : FnOk Try.prog 26 := ⟨fun _ _ => by kernel_rfl⟩
instance : FnOk Try.prog 27 := ⟨fun _ _ => by kernel_rfl⟩
instance : FnOk Try.prog 28 := ⟨fun _ _ => by kernel_rfl⟩
instance : FnOk Try.prog 29 := ⟨fun _ _ => by kernel_rfl⟩
instance : FnOk Try.prog 30 := ⟨fun _ _ => by kernel_rfl⟩
instance : FnOk Try.prog 31 := ⟨fun _ _ => by kernel_rfl⟩
instance : FnOk Try.prog 32 := ⟨fun _ _ => by kernel_rfl⟩
instance : FnOk Try.prog 33 := ⟨fun _ _ => by kernel_rfl⟩
instance : FnOk Try.prog 34 := ⟨fun _ _ => by kernel_rfl⟩
instance : FnOk Try.prog 35 := ⟨fun _ _ => by kernel_rfl⟩
instance : FnOk Try.prog 36 := ⟨fun _ _ => by kernel_rfl⟩
instance : FnOk Try.prog 37 := ⟨fun _ _ => by kernel_rfl⟩
instance : FnOk Try.prog 38 := ⟨fun _ _ => by kernel_rfl⟩
instance : FnOk Try.prog 39 := ⟨fun _ _ => by kernel_rfl⟩
instance : FnOk Try.prog 40 := ⟨fun _ _ => by kernel_rfl⟩
instance : FnOk Try.prog 41 := ⟨fun _ _ => by kernel_rfl⟩
instance : FnOk Try.prog 42 := ⟨fun _ _ => by kernel_rfl⟩
instance : FnOk Try.prog 43 := ⟨fun _ _ => by kernel_rfl⟩
instance : FnOk Try.prog 44 := ⟨fun _ _ => by kernel_rfl⟩
instance : FnOk Try.prog 45 := ⟨fun _ _ => by kernel_rfl⟩
instance : FnOk Try.prog 46 := ⟨fun _ _ => by kernel_rfl⟩
instance : FnOk Try.prog 47 := ⟨fun _ _ => by kernel_rfl⟩
instance : FnOk Try.prog 48 := ⟨fun _ _ => by kernel_rfl⟩
instance : FnOk Try.prog 49 := ⟨fun _ _ => by kernel_rfl⟩
instance : FnOk Try.prog 50 := ⟨fun _ _ => by kernel_rfl⟩
instance : FnOk Try.prog 51 := ⟨fun _ _ => by kernel_rfl⟩
instance : FnOk Try.prog 52 := ⟨fun _ _ => by kernel_rfl⟩
instance : FnOk Try.prog 53 := ⟨fun _ _ => by kernel_rfl⟩
instance : FnOk Try.prog 54 := ⟨fun _ _ => by kernel_rfl⟩
instance : FnOk Try.prog 55 := ⟨fun _ _ => by kernel_rfl⟩
instance : FnOk Try.prog 56 := ⟨fun _ _ => by kernel_rfl⟩
instance : FnOk Try.prog 57 := ⟨fun _ _ => by kernel_rfl⟩
instance : FnOk Try.prog 58 := ⟨fun _ _ => by kernel_rfl⟩
instance : FnOk Try.prog 59 := ⟨fun _ _ => by kernel_rfl⟩
instance : FnOk Try.prog 60 := ⟨fun _ _ => by kernel_rfl⟩
instance : FnOk Try.prog 61 := ⟨fun _ _ => by kernel_rfl⟩
instance : FnOk Try.prog 62 := ⟨fun _ _ => by kernel_rfl⟩
instance : FnOk Try.prog 63 := ⟨fun _ _ => by kernel_rfl⟩
instance : FnOk Try.prog 64 := ⟨fun _ _ => by kernel_rfl⟩
instance : FnOk Try.prog 65 := ⟨fun _ _ => by kernel_rfl⟩
instance : FnOk Try.prog 66 := ⟨fun _ _ => by kernel_rfl⟩
instance : FnOk Try.prog 67 := ⟨fun _ _ => by kernel_rfl⟩
instance : FnOk Try.prog 68 := ⟨fun _ _ => by kernel_rfl⟩
instance : FnOk Try.prog 69 := ⟨fun _ _ => by kernel_rfl⟩
instance : FnOk Try.prog 70 := ⟨fun _ _ => by kernel_rfl⟩
instance : FnOk Try.prog 71 := ⟨fun _ _ => by kernel_rfl⟩
instance : FnOk Try.prog 72 := ⟨fun _ _ => by kernel_rfl⟩
instance : FnOk Try.prog 73 := ⟨fun _ _ => by kernel_rfl⟩
instance : FnOk Try.prog 74 := ⟨fun _ _ => by kernel_rfl⟩
instance : FnOk Try.prog 75 := ⟨fun _ _ => by kernel_rfl⟩
instance : FnOk Try.prog 76 := ⟨fun _ _ => by kernel_rfl⟩
instance : FnOk Try.prog 77 := ⟨fun _ _ => by kernel_rfl⟩
end Go.Proofs.Ytgklapdlambdlaa
