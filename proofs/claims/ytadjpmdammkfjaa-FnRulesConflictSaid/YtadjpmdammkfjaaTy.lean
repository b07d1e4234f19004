/- Facts of types and functions of the given program, out of its translation's tables, each by the kernel's own reckoning. No condition. -/
import Derived.Test.YtadjpmdammkfjaaProg
import Derived.KernelRfl
import Derived.Test.YtadjpmdammkfjaaSym
namespace Go.Proofs.Ytadjpmdammkfjaa
open Go.RowKit

instance : I64Ty Try.prog 2 := ⟨by kernel_rfl⟩
instance : OneTy Try.prog 2 := ⟨fun _ => by kernel_rfl, fun _ => by kernel_rfl⟩
instance : ElemTy Try.prog 2 (.int .i64 0) 1 8 := ⟨by kernel_rfl, rfl, by omega⟩
instance : I64Ty Try.prog 3 := ⟨by kernel_rfl⟩
instance : OneTy Try.prog 3 := ⟨fun _ => by kernel_rfl, fun _ => by kernel_rfl⟩
instance : ElemTy Try.prog 3 (.int .i64 0) 1 8 := ⟨by kernel_rfl, rfl, by omega⟩
instance : BoolTy Try.prog 4 := ⟨by kernel_rfl⟩
instance : OneTy Try.prog 4 := ⟨fun _ => by kernel_rfl, fun _ => by kernel_rfl⟩
instance : ElemTy Try.prog 4 (.bool false) 1 1 := ⟨by kernel_rfl, rfl, by omega⟩
instance : U8Ty Try.prog 5 := ⟨by kernel_rfl⟩
instance : OneTy Try.prog 5 := ⟨fun _ => by kernel_rfl, fun _ => by kernel_rfl⟩
instance : ElemTy Try.prog 5 (.int .u8 0) 1 1 := ⟨by kernel_rfl, rfl, by omega⟩
instance : OneTy Try.prog 12 := ⟨fun _ => by kernel_rfl, fun _ => by kernel_rfl⟩
instance : ElemTy Try.prog 12 (.int .u64 0) 1 8 := ⟨by kernel_rfl, rfl, by omega⟩
instance : OneTy Try.prog 21 := ⟨fun _ => by kernel_rfl, fun _ => by kernel_rfl⟩
instance : ElemTy Try.prog 21 (.int .i32 0) 1 4 := ⟨by kernel_rfl, rfl, by omega⟩
instance : AggTy Try.prog 22 2 := ⟨fun _ => by kernel_rfl, fun _ => by kernel_rfl⟩
instance : ElemTy Try.prog 22 (.agg #[.int .i64 0, .int .i64 0]) 2 16 := ⟨by kernel_rfl, rfl, by omega⟩
instance : FieldTy Try.prog 22 0 0 := ⟨fun _ _ => by kernel_rfl⟩
instance : FieldTy Try.prog 22 1 1 := ⟨fun _ _ => by kernel_rfl⟩
instance : BuildTy Try.prog 22 [(0, 1), (1, 1)] [.int .i64 0, .int .i64 0] := ⟨fun _ => by kernel_rfl, ⟨_, Try.underlying22, fun _ => by kernel_rfl⟩⟩
instance : AggTy Try.prog 23 2 := ⟨fun _ => by kernel_rfl, fun _ => by kernel_rfl⟩
instance : ElemTy Try.prog 23 (.agg #[.int .i64 0, .int .i64 0]) 2 16 := ⟨by kernel_rfl, rfl, by omega⟩
instance : FieldTy Try.prog 23 0 0 := ⟨fun _ _ => by kernel_rfl⟩
instance : FieldTy Try.prog 23 1 1 := ⟨fun _ _ => by kernel_rfl⟩
instance : BuildTy Try.prog 23 [(0, 1), (1, 1)] [.int .i64 0, .int .i64 0] := ⟨fun _ => by kernel_rfl, ⟨_, Try.underlying23, fun _ => by kernel_rfl⟩⟩
instance : SliceTy Try.prog 24 23 := ⟨by kernel_rfl⟩
instance : OneTy Try.prog 24 := ⟨fun _ => by kernel_rfl, fun _ => by kernel_rfl⟩
instance : ElemTy Try.prog 24 (.slice none 0 0) 1 24 := ⟨by kernel_rfl, rfl, by omega⟩
instance : AggTy Try.prog 25 4 := ⟨fun _ => by kernel_rfl, fun _ => by kernel_rfl⟩
instance : ElemTy Try.prog 25 (.agg #[.int .i64 0, .int .i64 0, .slice none 0 0, .int .i64 0]) 4 48 := ⟨by kernel_rfl, rfl, by omega⟩
instance : FieldTy Try.prog 25 0 0 := ⟨fun _ _ => by kernel_rfl⟩
instance : FieldTy Try.prog 25 1 2 := ⟨fun _ _ => by kernel_rfl⟩
instance : FieldTy Try.prog 25 2 3 := ⟨fun _ _ => by kernel_rfl⟩
instance : BuildTy Try.prog 25 [(0, 2), (2, 1), (3, 1)] [.int .i64 0, .int .i64 0, .slice none 0 0, .int .i64 0] := ⟨fun _ => by kernel_rfl, ⟨_, Try.underlying25, fun _ => by kernel_rfl⟩⟩
instance : AggTy Try.prog 26 4 := ⟨fun _ => by kernel_rfl, fun _ => by kernel_rfl⟩
instance : ElemTy Try.prog 26 (.agg #[.int .i64 0, .int .i64 0, .slice none 0 0, .int .i64 0]) 4 48 := ⟨by kernel_rfl, rfl, by omega⟩
instance : FieldTy Try.prog 26 0 0 := ⟨fun _ _ => by kernel_rfl⟩
instance : FieldTy Try.prog 26 1 2 := ⟨fun _ _ => by kernel_rfl⟩
instance : FieldTy Try.prog 26 2 3 := ⟨fun _ _ => by kernel_rfl⟩
instance : BuildTy Try.prog 26 [(0, 2), (2, 1), (3, 1)] [.int .i64 0, .int .i64 0, .slice none 0 0, .int .i64 0] := ⟨fun _ => by kernel_rfl, ⟨_, Try.underlying26, fun _ => by kernel_rfl⟩⟩
instance : AggTy Try.prog 27 11 := ⟨fun _ => by kernel_rfl, fun _ => by kernel_rfl⟩
instance : ElemTy Try.prog 27 (.agg #[.int .i64 0, .int .i64 0, .int .i64 0, .int .i64 0, .int .i64 0, .int .i64 0, .int .i64 0, .int .i64 0, .int .i64 0, .slice none 0 0, .int .i64 0]) 11 104 := ⟨by kernel_rfl, rfl, by omega⟩
instance : FieldTy Try.prog 27 0 0 := ⟨fun _ _ => by kernel_rfl⟩
instance : FieldTy Try.prog 27 1 1 := ⟨fun _ _ => by kernel_rfl⟩
instance : FieldTy Try.prog 27 2 2 := ⟨fun _ _ => by kernel_rfl⟩
instance : FieldTy Try.prog 27 3 3 := ⟨fun _ _ => by kernel_rfl⟩
instance : FieldTy Try.prog 27 4 4 := ⟨fun _ _ => by kernel_rfl⟩
instance : FieldTy Try.prog 27 5 5 := ⟨fun _ _ => by kernel_rfl⟩
instance : FieldTy Try.prog 27 6 6 := ⟨fun _ _ => by kernel_rfl⟩
instance : FieldTy Try.prog 27 7 7 := ⟨fun _ _ => by kernel_rfl⟩
instance : BuildTy Try.prog 27 [(0, 1), (1, 1), (2, 1), (3, 1), (4, 1), (5, 1), (6, 1), (7, 4)] [.int .i64 0, .int .i64 0, .int .i64 0, .int .i64 0, .int .i64 0, .int .i64 0, .int .i64 0, .int .i64 0, .int .i64 0, .slice none 0 0, .int .i64 0] := ⟨fun _ => by kernel_rfl, ⟨_, Try.underlying27, fun _ => by kernel_rfl⟩⟩
instance : AggTy Try.prog 28 11 := ⟨fun _ => by kernel_rfl, fun _ => by kernel_rfl⟩
instance : ElemTy Try.prog 28 (.agg #[.int .i64 0, .int .i64 0, .int .i64 0, .int .i64 0, .int .i64 0, .int .i64 0, .int .i64 0, .int .i64 0, .int .i64 0, .slice none 0 0, .int .i64 0]) 11 104 := ⟨by kernel_rfl, rfl, by omega⟩
instance : FieldTy Try.prog 28 0 0 := ⟨fun _ _ => by kernel_rfl⟩
instance : FieldTy Try.prog 28 1 1 := ⟨fun _ _ => by kernel_rfl⟩
instance : FieldTy Try.prog 28 2 2 := ⟨fun _ _ => by kernel_rfl⟩
instance : FieldTy Try.prog 28 3 3 := ⟨fun _ _ => by kernel_rfl⟩
instance : FieldTy Try.prog 28 4 4 := ⟨fun _ _ => by kernel_rfl⟩
instance : FieldTy Try.prog 28 5 5 := ⟨fun _ _ => by kernel_rfl⟩
instance : FieldTy Try.prog 28 6 6 := ⟨fun _ _ => by kernel_rfl⟩
instance : FieldTy Try.prog 28 7 7 := ⟨fun _ _ => by kernel_rfl⟩
instance : BuildTy Try.prog 28 [(0, 1), (1, 1), (2, 1), (3, 1), (4, 1), (5, 1), (6, 1), (7, 4)] [.int .i64 0, .int .i64 0, .int .i64 0, .int .i64 0, .int .i64 0, .int .i64 0, .int .i64 0, .int .i64 0, .int .i64 0, .slice none 0 0, .int .i64 0] := ⟨fun _ => by kernel_rfl, ⟨_, Try.underlying28, fun _ => by kernel_rfl⟩⟩
instance : AggTy Try.prog 31 2 := ⟨fun _ => by kernel_rfl, fun _ => by kernel_rfl⟩
instance : ElemTy Try.prog 31 (.agg #[.int .i64 0, .int .i64 0]) 2 16 := ⟨by kernel_rfl, rfl, by omega⟩
instance : FieldTy Try.prog 31 0 0 := ⟨fun _ _ => by kernel_rfl⟩
instance : FieldTy Try.prog 31 1 1 := ⟨fun _ _ => by kernel_rfl⟩
instance : BuildTy Try.prog 31 [(0, 1), (1, 1)] [.int .i64 0, .int .i64 0] := ⟨fun _ => by kernel_rfl, ⟨_, Try.underlying31, fun _ => by kernel_rfl⟩⟩
instance : SliceTy Try.prog 32 31 := ⟨by kernel_rfl⟩
instance : OneTy Try.prog 32 := ⟨fun _ => by kernel_rfl, fun _ => by kernel_rfl⟩
instance : ElemTy Try.prog 32 (.slice none 0 0) 1 24 := ⟨by kernel_rfl, rfl, by omega⟩
instance : AggTy Try.prog 33 4 := ⟨fun _ => by kernel_rfl, fun _ => by kernel_rfl⟩
instance : ElemTy Try.prog 33 (.agg #[.int .i64 0, .int .i64 0, .slice none 0 0, .int .i64 0]) 4 48 := ⟨by kernel_rfl, rfl, by omega⟩
instance : FieldTy Try.prog 33 0 0 := ⟨fun _ _ => by kernel_rfl⟩
instance : FieldTy Try.prog 33 1 2 := ⟨fun _ _ => by kernel_rfl⟩
instance : FieldTy Try.prog 33 2 3 := ⟨fun _ _ => by kernel_rfl⟩
instance : BuildTy Try.prog 33 [(0, 2), (2, 1), (3, 1)] [.int .i64 0, .int .i64 0, .slice none 0 0, .int .i64 0] := ⟨fun _ => by kernel_rfl, ⟨_, Try.underlying33, fun _ => by kernel_rfl⟩⟩
instance : AggTy Try.prog 34 4 := ⟨fun _ => by kernel_rfl, fun _ => by kernel_rfl⟩
instance : ElemTy Try.prog 34 (.agg #[.int .i64 0, .int .i64 0, .slice none 0 0, .int .i64 0]) 4 48 := ⟨by kernel_rfl, rfl, by omega⟩
instance : FieldTy Try.prog 34 0 0 := ⟨fun _ _ => by kernel_rfl⟩
instance : FieldTy Try.prog 34 1 2 := ⟨fun _ _ => by kernel_rfl⟩
instance : FieldTy Try.prog 34 2 3 := ⟨fun _ _ => by kernel_rfl⟩
instance : BuildTy Try.prog 34 [(0, 2), (2, 1), (3, 1)] [.int .i64 0, .int .i64 0, .slice none 0 0, .int .i64 0] := ⟨fun _ => by kernel_rfl, ⟨_, Try.underlying34, fun _ => by kernel_rfl⟩⟩
instance : AggTy Try.prog 35 11 := ⟨fun _ => by kernel_rfl, fun _ => by kernel_rfl⟩
instance : ElemTy Try.prog 35 (.agg #[.int .i64 0, .int .i64 0, .int .i64 0, .int .i64 0, .int .i64 0, .int .i64 0, .int .i64 0, .int .i64 0, .int .i64 0, .slice none 0 0, .int .i64 0]) 11 104 := ⟨by kernel_rfl, rfl, by omega⟩
instance : FieldTy Try.prog 35 0 0 := ⟨fun _ _ => by kernel_rfl⟩
instance : FieldTy Try.prog 35 1 1 := ⟨fun _ _ => by kernel_rfl⟩
instance : FieldTy Try.prog 35 2 2 := ⟨fun _ _ => by kernel_rfl⟩
instance : FieldTy Try.prog 35 3 3 := ⟨fun _ _ => by kernel_rfl⟩
instance : FieldTy Try.prog 35 4 4 := ⟨fun _ _ => by kernel_rfl⟩
instance : FieldTy Try.prog 35 5 5 := ⟨fun _ _ => by kernel_rfl⟩
instance : FieldTy Try.prog 35 6 6 := ⟨fun _ _ => by kernel_rfl⟩
instance : FieldTy Try.prog 35 7 7 := ⟨fun _ _ => by kernel_rfl⟩
instance : BuildTy Try.prog 35 [(0, 1), (1, 1), (2, 1), (3, 1), (4, 1), (5, 1), (6, 1), (7, 4)] [.int .i64 0, .int .i64 0, .int .i64 0, .int .i64 0, .int .i64 0, .int .i64 0, .int .i64 0, .int .i64 0, .int .i64 0, .slice none 0 0, .int .i64 0] := ⟨fun _ => by kernel_rfl, ⟨_, Try.underlying35, fun _ => by kernel_rfl⟩⟩
instance : AggTy Try.prog 36 11 := ⟨fun _ => by kernel_rfl, fun _ => by kernel_rfl⟩
instance : ElemTy Try.prog 36 (.agg #[.int .i64 0, .int .i64 0, .int .i64 0, .int .i64 0, .int .i64 0, .int .i64 0, .int .i64 0, .int .i64 0, .int .i64 0, .slice none 0 0, .int .i64 0]) 11 104 := ⟨by kernel_rfl, rfl, by omega⟩
instance : FieldTy Try.prog 36 0 0 := ⟨fun _ _ => by kernel_rfl⟩
instance : FieldTy Try.prog 36 1 1 := ⟨fun _ _ => by kernel_rfl⟩
instance : FieldTy Try.prog 36 2 2 := ⟨fun _ _ => by kernel_rfl⟩
instance : FieldTy Try.prog 36 3 3 := ⟨fun _ _ => by kernel_rfl⟩
instance : FieldTy Try.prog 36 4 4 := ⟨fun _ _ => by kernel_rfl⟩
instance : FieldTy Try.prog 36 5 5 := ⟨fun _ _ => by kernel_rfl⟩
instance : FieldTy Try.prog 36 6 6 := ⟨fun _ _ => by kernel_rfl⟩
instance : FieldTy Try.prog 36 7 7 := ⟨fun _ _ => by kernel_rfl⟩
instance : BuildTy Try.prog 36 [(0, 1), (1, 1), (2, 1), (3, 1), (4, 1), (5, 1), (6, 1), (7, 4)] [.int .i64 0, .int .i64 0, .int .i64 0, .int .i64 0, .int .i64 0, .int .i64 0, .int .i64 0, .int .i64 0, .int .i64 0, .slice none 0 0, .int .i64 0] := ⟨fun _ => by kernel_rfl, ⟨_, Try.underlying36, fun _ => by kernel_rfl⟩⟩
instance : SliceTy Try.prog 40 5 := ⟨by kernel_rfl⟩
instance : OneTy Try.prog 40 := ⟨fun _ => by kernel_rfl, fun _ => by kernel_rfl⟩
instance : ElemTy Try.prog 40 (.slice none 0 0) 1 24 := ⟨by kernel_rfl, rfl, by omega⟩
instance : SliceTy Try.prog 41 36 := ⟨by kernel_rfl⟩
instance : OneTy Try.prog 41 := ⟨fun _ => by kernel_rfl, fun _ => by kernel_rfl⟩
instance : ElemTy Try.prog 41 (.slice none 0 0) 1 24 := ⟨by kernel_rfl, rfl, by omega⟩
instance : SliceTy Try.prog 45 28 := ⟨by kernel_rfl⟩
instance : OneTy Try.prog 45 := ⟨fun _ => by kernel_rfl, fun _ => by kernel_rfl⟩
instance : ElemTy Try.prog 45 (.slice none 0 0) 1 24 := ⟨by kernel_rfl, rfl, by omega⟩
instance : SliceTy Try.prog 52 3 := ⟨by kernel_rfl⟩
instance : OneTy Try.prog 52 := ⟨fun _ => by kernel_rfl, fun _ => by kernel_rfl⟩
instance : ElemTy Try.prog 52 (.slice none 0 0) 1 24 := ⟨by kernel_rfl, rfl, by omega⟩
instance : AggTy Try.prog 53 3 := ⟨fun _ => by kernel_rfl, fun _ => by kernel_rfl⟩
instance : ElemTy Try.prog 53 (.agg #[.int .i64 0, .slice none 0 0, .slice none 0 0]) 3 56 := ⟨by kernel_rfl, rfl, by omega⟩
instance : FieldTy Try.prog 53 0 0 := ⟨fun _ _ => by kernel_rfl⟩
instance : FieldTy Try.prog 53 1 1 := ⟨fun _ _ => by kernel_rfl⟩
instance : FieldTy Try.prog 53 2 2 := ⟨fun _ _ => by kernel_rfl⟩
instance : BuildTy Try.prog 53 [(0, 1), (1, 1), (2, 1)] [.int .i64 0, .slice none 0 0, .slice none 0 0] := ⟨fun _ => by kernel_rfl, ⟨_, Try.underlying53, fun _ => by kernel_rfl⟩⟩
instance : AggTy Try.prog 54 3 := ⟨fun _ => by kernel_rfl, fun _ => by kernel_rfl⟩
instance : ElemTy Try.prog 54 (.agg #[.int .i64 0, .slice none 0 0, .slice none 0 0]) 3 56 := ⟨by kernel_rfl, rfl, by omega⟩
instance : FieldTy Try.prog 54 0 0 := ⟨fun _ _ => by kernel_rfl⟩
instance : FieldTy Try.prog 54 1 1 := ⟨fun _ _ => by kernel_rfl⟩
instance : FieldTy Try.prog 54 2 2 := ⟨fun _ _ => by kernel_rfl⟩
instance : BuildTy Try.prog 54 [(0, 1), (1, 1), (2, 1)] [.int .i64 0, .slice none 0 0, .slice none 0 0] := ⟨fun _ => by kernel_rfl, ⟨_, Try.underlying54, fun _ => by kernel_rfl⟩⟩
instance : OneTy Try.prog 69 := ⟨fun _ => by kernel_rfl, fun _ => by kernel_rfl⟩
instance : ElemTy Try.prog 69 (.pointer none) 1 8 := ⟨by kernel_rfl, rfl, by omega⟩
instance : AggTy Try.prog 87 2 := ⟨fun _ => by kernel_rfl, fun _ => by kernel_rfl⟩
instance : ElemTy Try.prog 87 (.agg #[.slice none 0 0, .int .i64 0]) 2 32 := ⟨by kernel_rfl, rfl, by omega⟩
instance : FieldTy Try.prog 87 0 0 := ⟨fun _ _ => by kernel_rfl⟩
instance : FieldTy Try.prog 87 1 1 := ⟨fun _ _ => by kernel_rfl⟩
instance : BuildTy Try.prog 87 [(0, 1), (1, 1)] [.slice none 0 0, .int .i64 0] := ⟨fun _ => by kernel_rfl, ⟨_, Try.underlying87, fun _ => by kernel_rfl⟩⟩
instance : AggTy Try.prog 88 2 := ⟨fun _ => by kernel_rfl, fun _ => by kernel_rfl⟩
instance : ElemTy Try.prog 88 (.agg #[.slice none 0 0, .int .i64 0]) 2 32 := ⟨by kernel_rfl, rfl, by omega⟩
instance : FieldTy Try.prog 88 0 0 := ⟨fun _ _ => by kernel_rfl⟩
instance : FieldTy Try.prog 88 1 1 := ⟨fun _ _ => by kernel_rfl⟩
instance : BuildTy Try.prog 88 [(0, 1), (1, 1)] [.slice none 0 0, .int .i64 0] := ⟨fun _ => by kernel_rfl, ⟨_, Try.underlying88, fun _ => by kernel_rfl⟩⟩
instance : OneTy Try.prog 104 := ⟨fun _ => by kernel_rfl, fun _ => by kernel_rfl⟩
instance : ElemTy Try.prog 104 (.int .u32 0) 1 4 := ⟨by kernel_rfl, rfl, by omega⟩
instance : OneTy Try.prog 108 := ⟨fun _ => by kernel_rfl, fun _ => by kernel_rfl⟩
instance : ElemTy Try.prog 108 (.pointer none) 1 8 := ⟨by kernel_rfl, rfl, by omega⟩
instance : FnOk Try.prog 3 := ⟨fun _ _ => by kernel_rfl⟩
instance : FnOk Try.prog 4 := ⟨fun _ _ => by kernel_rfl⟩
instance : FnOk Try.prog 5 := ⟨fun _ _ => by kernel_rfl⟩
instance : FnOk Try.prog 6 := ⟨fun _ _ => by kernel_rfl⟩
instance : FnOk Try.prog 7 := ⟨fun _ _ => by kernel_rfl⟩
instance : FnOk Try.prog 8 := ⟨fun _ _ => by kernel_rfl⟩
instance : FnOk Try.prog 9 := ⟨fun _ _ => by kernel_rfl⟩
instance : FnOk Try.prog 10 := ⟨fun _ _ => by kernel_rfl⟩
instance : FnOk Try.prog 11 := ⟨fun _ _ => by kernel_rfl⟩
instance : FnOk Try.prog 12 := ⟨fun _ _ => by kernel_rfl⟩
instance : FnOk Try.prog 13 := ⟨fun _ _ => by kernel_rfl⟩
instance : FnOk Try.prog 14 := ⟨fun _ _ => by kernel_rfl⟩
instance : FnOk Try.prog 15 := ⟨fun _ _ => by kernel_rfl⟩
instance : FnOk Try.prog 16 := ⟨fun _ _ => by kernel_rfl⟩
instance : FnOk Try.prog 17 := ⟨fun _ _ => by kernel_rfl⟩
instance : FnOk Try.prog 18 := ⟨fun _ _ => by kernel_rfl⟩
instance : FnOk Try.prog 19 := ⟨fun _ _ => by kernel_rfl⟩
instance : FnOk Try.prog 20 := ⟨fun _ _ => by kernel_rfl⟩
instance : FnOk Try.prog 21 := ⟨fun _ _ => by kernel_rfl⟩
instance : FnOk Try.prog 22 := ⟨fun _ _ => by kernel_rfl⟩
instance : FnOk Try.prog 23 := ⟨fun _ _ => by kernel_rfl⟩
instance : FnOk Try.prog 24 := ⟨fun _ _ => by kernel_rfl⟩
instance : FnOk Try.prog 25 := ⟨fun _ _ => by kernel_rfl⟩
instance : FnOk Try.prog 26 := ⟨fun _ _ => by kernel_rfl⟩
instance : FnOk Try.prog 27 := ⟨fun _ _ => by kernel_rfl⟩
instance : FnOk Try.prog 28 := ⟨fun _ _ => by kernel_rfl⟩
instance : FnOk Try.prog 29 := ⟨fun _ _ => by kernel_rfl⟩
instance : FnOk Try.prog 30 := ⟨fun _ _ => by kernel_rfl⟩
instance : FnOk Try.prog 31 := ⟨fun _ _ => by kernel_rfl⟩
instance : FnOk Try.prog 32 := ⟨fun _ _ => by kernel_rfl⟩
instance : FnOk Try.prog 33 := ⟨fun _ _ => by kernel_rfl⟩
instance : FnOk Try.prog 34 := ⟨fun _ _ => by kernel_rfl⟩
instance : FnOk Try.prog 35 := ⟨fun _ _ => by kernel_rfl⟩
instance : FnOk Try.prog 36 := ⟨fun _ _ => by kernel_rfl⟩
instance : FnOk Try.prog 37 := ⟨fun _ _ => by kernel_rfl⟩
instance : FnOk Try.prog 38 := ⟨fun _ _ => by kernel_rfl⟩
instance : FnOk Try.prog 39 := ⟨fun _ _ => by kernel_rfl⟩
instance : FnOk Try.prog 40 := ⟨fun _ _ => by kernel_rfl⟩
instance : FnOk Try.prog 41 := ⟨fun _ _ => by kernel_rfl⟩
instance : FnOk Try.prog 42 := ⟨fun _ _ => by kernel_rfl⟩
instance : FnOk Try.prog 43 := ⟨fun _ _ => by kernel_rfl⟩
instance : FnOk Try.prog 44 := ⟨fun _ _ => by kernel_rfl⟩
instance : FnOk Try.prog 45 := ⟨fun _ _ => by kernel_rfl⟩
instance : FnOk Try.prog 46 := ⟨fun _ _ => by kernel_rfl⟩
instance : FnOk Try.prog 47 := ⟨fun _ _ => by kernel_rfl⟩
instance : FnOk Try.prog 48 := ⟨fun _ _ => by kernel_rfl⟩
instance : FnOk Try.prog 49 := ⟨fun _ _ => by kernel_rfl⟩
instance : FnOk Try.prog 50 := ⟨fun _ _ => by kernel_rfl⟩
instance : FnOk Try.prog 51 := ⟨fun _ _ => by kernel_rfl⟩
instance : FnOk Try.prog 52 := ⟨fun _ _ => by kernel_rfl⟩
instance : FnOk Try.prog 53 := ⟨fun _ _ => by kernel_rfl⟩
instance : FnOk Try.prog 54 := ⟨fun _ _ => by kernel_rfl⟩
instance : FnOk Try.prog 55 := ⟨fun _ _ => by kernel_rfl⟩
instance : FnOk Try.prog 56 := ⟨fun _ _ => by kernel_rfl⟩
instance : FnOk Try.prog 57 := ⟨fun _ _ => by kernel_rfl⟩
instance : FnOk Try.prog 58 := ⟨fun _ _ => by kernel_rfl⟩
instance : FnOk Try.prog 59 := ⟨fun _ _ => by kernel_rfl⟩
instance : FnOk Try.prog 60 := ⟨fun _ _ => by kernel_rfl⟩
instance : FnOk Try.prog 61 := ⟨fun _ _ => by kernel_rfl⟩
instance : FnOk Try.prog 62 := ⟨fun _ _ => by kernel_rfl⟩
instance : FnOk Try.prog 63 := ⟨fun _ _ => by kernel_rfl⟩
instance : FnOk Try.prog 64 := ⟨fun _ _ => by kernel_rfl⟩
instance : FnOk Try.prog 65 := ⟨fun _ _ => by kernel_rfl⟩
instance : FnOk Try.prog 66 := ⟨fun _ _ => by kernel_rfl⟩
instance : FnOk Try.prog 67 := ⟨fun _ _ => by kernel_rfl⟩
instance : FnOk Try.prog 68 := ⟨fun _ _ => by kernel_rfl⟩
instance : FnOk Try.prog 69 := ⟨fun _ _ => by kernel_rfl⟩
instance : FnOk Try.prog 70 := ⟨fun _ _ => by kernel_rfl⟩
instance : FnOk Try.prog 71 := ⟨fun _ _ => by kernel_rfl⟩
instance : FnOk Try.prog 72 := ⟨fun _ _ => by kernel_rfl⟩
instance : FnOk Try.prog 73 := ⟨fun _ _ => by kernel_rfl⟩
instance : FnOk Try.prog 74 := ⟨fun _ _ => by kernel_rfl⟩
instance : FnOk Try.prog 75 := ⟨fun _ _ => by kernel_rfl⟩
end Go.Proofs.Ytadjpmdammkfjaa
