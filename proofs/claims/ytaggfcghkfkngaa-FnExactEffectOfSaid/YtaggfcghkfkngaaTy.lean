/- Facts of types and functions of the given program, out of its translation's tables, each by the kernel's own reckoning. No condition. -/
import Derived.Test.YtaggfcghkfkngaaProg
import Derived.KernelRfl
import Derived.Test.YtaggfcghkfkngaaSym
namespace Go.Proofs.Ytaggfcghkfkngaa
open Go.RowKit

instance : I64Ty Try.prog 2 := ⟨by kernel_rfl⟩
instance : OneTy Try.prog 2 := ⟨fun _ => by kernel_rfl, fun _ => by kernel_rfl⟩
instance : ElemTy Try.prog 2 (.int .i64 0) 1 8 := ⟨by kernel_rfl, rfl, by omega⟩
instance : I64Ty Try.prog 3 := ⟨by kernel_rfl⟩
instance : OneTy Try.prog 3 := ⟨fun _ => by kernel_rfl, fun _ => by kernel_rfl⟩
instance : ElemTy Try.prog 3 (.int .i64 0) 1 8 := ⟨by kernel_rfl, rfl, by omega⟩
instance : BoolTy Try.prog 4 := ⟨by kernel_rfl⟩
instance : OneTy Try.prog 4 := ⟨fun _ => by kernel_rfl, fun _ => by kernel_rfl⟩
instance : ElemTy Try.prog 4 (.bool false) 1 1 := ⟨by kernel_rfl, rfl, by omega⟩
instance : U8Ty Try.prog 5 := ⟨by kernel_rfl⟩
instance : OneTy Try.prog 5 := ⟨fun _ => by kernel_rfl, fun _ => by kernel_rfl⟩
instance : ElemTy Try.prog 5 (.int .u8 0) 1 1 := ⟨by kernel_rfl, rfl, by omega⟩
instance : OneTy Try.prog 12 := ⟨fun _ => by kernel_rfl, fun _ => by kernel_rfl⟩
instance : ElemTy Try.prog 12 (.int .u64 0) 1 8 := ⟨by kernel_rfl, rfl, by omega⟩
instance : OneTy Try.prog 21 := ⟨fun _ => by kernel_rfl, fun _ => by kernel_rfl⟩
instance : ElemTy Try.prog 21 (.int .i32 0) 1 4 := ⟨by kernel_rfl, rfl, by omega⟩
instance : SliceTy Try.prog 22 79 := ⟨by kernel_rfl⟩
instance : OneTy Try.prog 22 := ⟨fun _ => by kernel_rfl, fun _ => by kernel_rfl⟩
instance : ElemTy Try.prog 22 (.slice none 0 0) 1 24 := ⟨by kernel_rfl, rfl, by omega⟩
instance : SliceTy Try.prog 23 81 := ⟨by kernel_rfl⟩
instance : OneTy Try.prog 23 := ⟨fun _ => by kernel_rfl, fun _ => by kernel_rfl⟩
instance : ElemTy Try.prog 23 (.slice none 0 0) 1 24 := ⟨by kernel_rfl, rfl, by omega⟩
instance : SliceTy Try.prog 24 3 := ⟨by kernel_rfl⟩
instance : OneTy Try.prog 24 := ⟨fun _ => by kernel_rfl, fun _ => by kernel_rfl⟩
instance : ElemTy Try.prog 24 (.slice none 0 0) 1 24 := ⟨by kernel_rfl, rfl, by omega⟩
instance : AggTy Try.prog 27 3 := ⟨fun _ => by kernel_rfl, fun _ => by kernel_rfl⟩
instance : ElemTy Try.prog 27 (.agg #[.int .i64 0, .slice none 0 0, .slice none 0 0]) 3 56 := ⟨by kernel_rfl, rfl, by omega⟩
instance : FieldTy Try.prog 27 0 0 := ⟨fun _ _ => by kernel_rfl⟩
instance : FieldTy Try.prog 27 1 1 := ⟨fun _ _ => by kernel_rfl⟩
instance : FieldTy Try.prog 27 2 2 := ⟨fun _ _ => by kernel_rfl⟩
instance : BuildTy Try.prog 27 [(0, 1), (1, 1), (2, 1)] [.int .i64 0, .slice none 0 0, .slice none 0 0] := ⟨fun _ => by kernel_rfl, ⟨_, Try.underlying27, fun _ => by kernel_rfl⟩⟩
instance : AggTy Try.prog 28 3 := ⟨fun _ => by kernel_rfl, fun _ => by kernel_rfl⟩
instance : ElemTy Try.prog 28 (.agg #[.int .i64 0, .slice none 0 0, .slice none 0 0]) 3 56 := ⟨by kernel_rfl, rfl, by omega⟩
instance : FieldTy Try.prog 28 0 0 := ⟨fun _ _ => by kernel_rfl⟩
instance : FieldTy Try.prog 28 1 1 := ⟨fun _ _ => by kernel_rfl⟩
instance : FieldTy Try.prog 28 2 2 := ⟨fun _ _ => by kernel_rfl⟩
instance : BuildTy Try.prog 28 [(0, 1), (1, 1), (2, 1)] [.int .i64 0, .slice none 0 0, .slice none 0 0] := ⟨fun _ => by kernel_rfl, ⟨_, Try.underlying28, fun _ => by kernel_rfl⟩⟩
instance : SliceTy Try.prog 31 57 := ⟨by kernel_rfl⟩
instance : OneTy Try.prog 31 := ⟨fun _ => by kernel_rfl, fun _ => by kernel_rfl⟩
instance : ElemTy Try.prog 31 (.slice none 0 0) 1 24 := ⟨by kernel_rfl, rfl, by omega⟩
instance : SliceTy Try.prog 33 59 := ⟨by kernel_rfl⟩
instance : OneTy Try.prog 33 := ⟨fun _ => by kernel_rfl, fun _ => by kernel_rfl⟩
instance : ElemTy Try.prog 33 (.slice none 0 0) 1 24 := ⟨by kernel_rfl, rfl, by omega⟩
instance : SliceTy Try.prog 45 5 := ⟨by kernel_rfl⟩
instance : OneTy Try.prog 45 := ⟨fun _ => by kernel_rfl, fun _ => by kernel_rfl⟩
instance : ElemTy Try.prog 45 (.slice none 0 0) 1 24 := ⟨by kernel_rfl, rfl, by omega⟩
instance : AggTy Try.prog 46 2 := ⟨fun _ => by kernel_rfl, fun _ => by kernel_rfl⟩
instance : ElemTy Try.prog 46 (.agg #[.int .i64 0, .int .i64 0]) 2 16 := ⟨by kernel_rfl, rfl, by omega⟩
instance : FieldTy Try.prog 46 0 0 := ⟨fun _ _ => by kernel_rfl⟩
instance : FieldTy Try.prog 46 1 1 := ⟨fun _ _ => by kernel_rfl⟩
instance : BuildTy Try.prog 46 [(0, 1), (1, 1)] [.int .i64 0, .int .i64 0] := ⟨fun _ => by kernel_rfl, ⟨_, Try.underlying46, fun _ => by kernel_rfl⟩⟩
instance : AggTy Try.prog 47 2 := ⟨fun _ => by kernel_rfl, fun _ => by kernel_rfl⟩
instance : ElemTy Try.prog 47 (.agg #[.int .i64 0, .int .i64 0]) 2 16 := ⟨by kernel_rfl, rfl, by omega⟩
instance : FieldTy Try.prog 47 0 0 := ⟨fun _ _ => by kernel_rfl⟩
instance : FieldTy Try.prog 47 1 1 := ⟨fun _ _ => by kernel_rfl⟩
instance : BuildTy Try.prog 47 [(0, 1), (1, 1)] [.int .i64 0, .int .i64 0] := ⟨fun _ => by kernel_rfl, ⟨_, Try.underlying47, fun _ => by kernel_rfl⟩⟩
instance : SliceTy Try.prog 48 47 := ⟨by kernel_rfl⟩
instance : OneTy Try.prog 48 := ⟨fun _ => by kernel_rfl, fun _ => by kernel_rfl⟩
instance : ElemTy Try.prog 48 (.slice none 0 0) 1 24 := ⟨by kernel_rfl, rfl, by omega⟩
instance : AggTy Try.prog 49 4 := ⟨fun _ => by kernel_rfl, fun _ => by kernel_rfl⟩
instance : ElemTy Try.prog 49 (.agg #[.int .i64 0, .int .i64 0, .slice none 0 0, .int .i64 0]) 4 48 := ⟨by kernel_rfl, rfl, by omega⟩
instance : FieldTy Try.prog 49 0 0 := ⟨fun _ _ => by kernel_rfl⟩
instance : FieldTy Try.prog 49 1 2 := ⟨fun _ _ => by kernel_rfl⟩
instance : FieldTy Try.prog 49 2 3 := ⟨fun _ _ => by kernel_rfl⟩
instance : BuildTy Try.prog 49 [(0, 2), (2, 1), (3, 1)] [.int .i64 0, .int .i64 0, .slice none 0 0, .int .i64 0] := ⟨fun _ => by kernel_rfl, ⟨_, Try.underlying49, fun _ => by kernel_rfl⟩⟩
instance : AggTy Try.prog 50 4 := ⟨fun _ => by kernel_rfl, fun _ => by kernel_rfl⟩
instance : ElemTy Try.prog 50 (.agg #[.int .i64 0, .int .i64 0, .slice none 0 0, .int .i64 0]) 4 48 := ⟨by kernel_rfl, rfl, by omega⟩
instance : FieldTy Try.prog 50 0 0 := ⟨fun _ _ => by kernel_rfl⟩
instance : FieldTy Try.prog 50 1 2 := ⟨fun _ _ => by kernel_rfl⟩
instance : FieldTy Try.prog 50 2 3 := ⟨fun _ _ => by kernel_rfl⟩
instance : BuildTy Try.prog 50 [(0, 2), (2, 1), (3, 1)] [.int .i64 0, .int .i64 0, .slice none 0 0, .int .i64 0] := ⟨fun _ => by kernel_rfl, ⟨_, Try.underlying50, fun _ => by kernel_rfl⟩⟩
instance : AggTy Try.prog 51 11 := ⟨fun _ => by kernel_rfl, fun _ => by kernel_rfl⟩
instance : ElemTy Try.prog 51 (.agg #[.int .i64 0, .int .i64 0, .int .i64 0, .int .i64 0, .int .i64 0, .int .i64 0, .int .i64 0, .int .i64 0, .int .i64 0, .slice none 0 0, .int .i64 0]) 11 104 := ⟨by kernel_rfl, rfl, by omega⟩
instance : FieldTy Try.prog 51 0 0 := ⟨fun _ _ => by kernel_rfl⟩
instance : FieldTy Try.prog 51 1 1 := ⟨fun _ _ => by kernel_rfl⟩
instance : FieldTy Try.prog 51 2 2 := ⟨fun _ _ => by kernel_rfl⟩
instance : FieldTy Try.prog 51 3 3 := ⟨fun _ _ => by kernel_rfl⟩
instance : FieldTy Try.prog 51 4 4 := ⟨fun _ _ => by kernel_rfl⟩
instance : FieldTy Try.prog 51 5 5 := ⟨fun _ _ => by kernel_rfl⟩
instance : FieldTy Try.prog 51 6 6 := ⟨fun _ _ => by kernel_rfl⟩
instance : FieldTy Try.prog 51 7 7 := ⟨fun _ _ => by kernel_rfl⟩
instance : BuildTy Try.prog 51 [(0, 1), (1, 1), (2, 1), (3, 1), (4, 1), (5, 1), (6, 1), (7, 4)] [.int .i64 0, .int .i64 0, .int .i64 0, .int .i64 0, .int .i64 0, .int .i64 0, .int .i64 0, .int .i64 0, .int .i64 0, .slice none 0 0, .int .i64 0] := ⟨fun _ => by kernel_rfl, ⟨_, Try.underlying51, fun _ => by kernel_rfl⟩⟩
instance : AggTy Try.prog 52 11 := ⟨fun _ => by kernel_rfl, fun _ => by kernel_rfl⟩
instance : ElemTy Try.prog 52 (.agg #[.int .i64 0, .int .i64 0, .int .i64 0, .int .i64 0, .int .i64 0, .int .i64 0, .int .i64 0, .int .i64 0, .int .i64 0, .slice none 0 0, .int .i64 0]) 11 104 := ⟨by kernel_rfl, rfl, by omega⟩
instance : FieldTy Try.prog 52 0 0 := ⟨fun _ _ => by kernel_rfl⟩
instance : FieldTy Try.prog 52 1 1 := ⟨fun _ _ => by kernel_rfl⟩
instance : FieldTy Try.prog 52 2 2 := ⟨fun _ _ => by kernel_rfl⟩
instance : FieldTy Try.prog 52 3 3 := ⟨fun _ _ => by kernel_rfl⟩
instance : FieldTy Try.prog 52 4 4 := ⟨fun _ _ => by kernel_rfl⟩
instance : FieldTy Try.prog 52 5 5 := ⟨fun _ _ => by kernel_rfl⟩
instance : FieldTy Try.prog 52 6 6 := ⟨fun _ _ => by kernel_rfl⟩
instance : FieldTy Try.prog 52 7 7 := ⟨fun _ _ => by kernel_rfl⟩
instance : BuildTy Try.prog 52 [(0, 1), (1, 1), (2, 1), (3, 1), (4, 1), (5, 1), (6, 1), (7, 4)] [.int .i64 0, .int .i64 0, .int .i64 0, .int .i64 0, .int .i64 0, .int .i64 0, .int .i64 0, .int .i64 0, .int .i64 0, .slice none 0 0, .int .i64 0] := ⟨fun _ => by kernel_rfl, ⟨_, Try.underlying52, fun _ => by kernel_rfl⟩⟩
instance : AggTy Try.prog 56 4 := ⟨fun _ => by kernel_rfl, fun _ => by kernel_rfl⟩
instance : ElemTy Try.prog 56 (.agg #[.int .i64 0, .int .i64 0, .int .i64 0, .int .i64 0]) 4 32 := ⟨by kernel_rfl, rfl, by omega⟩
instance : FieldTy Try.prog 56 0 0 := ⟨fun _ _ => by kernel_rfl⟩
instance : FieldTy Try.prog 56 1 1 := ⟨fun _ _ => by kernel_rfl⟩
instance : FieldTy Try.prog 56 2 2 := ⟨fun _ _ => by kernel_rfl⟩
instance : FieldTy Try.prog 56 3 3 := ⟨fun _ _ => by kernel_rfl⟩
instance : BuildTy Try.prog 56 [(0, 1), (1, 1), (2, 1), (3, 1)] [.int .i64 0, .int .i64 0, .int .i64 0, .int .i64 0] := ⟨fun _ => by kernel_rfl, ⟨_, Try.underlying56, fun _ => by kernel_rfl⟩⟩
instance : AggTy Try.prog 57 4 := ⟨fun _ => by kernel_rfl, fun _ => by kernel_rfl⟩
instance : ElemTy Try.prog 57 (.agg #[.int .i64 0, .int .i64 0, .int .i64 0, .int .i64 0]) 4 32 := ⟨by kernel_rfl, rfl, by omega⟩
instance : FieldTy Try.prog 57 0 0 := ⟨fun _ _ => by kernel_rfl⟩
instance : FieldTy Try.prog 57 1 1 := ⟨fun _ _ => by kernel_rfl⟩
instance : FieldTy Try.prog 57 2 2 := ⟨fun _ _ => by kernel_rfl⟩
instance : FieldTy Try.prog 57 3 3 := ⟨fun _ _ => by kernel_rfl⟩
instance : BuildTy Try.prog 57 [(0, 1), (1, 1), (2, 1), (3, 1)] [.int .i64 0, .int .i64 0, .int .i64 0, .int .i64 0] := ⟨fun _ => by kernel_rfl, ⟨_, Try.underlying57, fun _ => by kernel_rfl⟩⟩
instance : AggTy Try.prog 58 2 := ⟨fun _ => by kernel_rfl, fun _ => by kernel_rfl⟩
instance : ElemTy Try.prog 58 (.agg #[.int .i64 0, .int .i64 0]) 2 16 := ⟨by kernel_rfl, rfl, by omega⟩
instance : FieldTy Try.prog 58 0 0 := ⟨fun _ _ => by kernel_rfl⟩
instance : FieldTy Try.prog 58 1 1 := ⟨fun _ _ => by kernel_rfl⟩
instance : BuildTy Try.prog 58 [(0, 1), (1, 1)] [.int .i64 0, .int .i64 0] := ⟨fun _ => by kernel_rfl, ⟨_, Try.underlying58, fun _ => by kernel_rfl⟩⟩
instance : AggTy Try.prog 59 2 := ⟨fun _ => by kernel_rfl, fun _ => by kernel_rfl⟩
instance : ElemTy Try.prog 59 (.agg #[.int .i64 0, .int .i64 0]) 2 16 := ⟨by kernel_rfl, rfl, by omega⟩
instance : FieldTy Try.prog 59 0 0 := ⟨fun _ _ => by kernel_rfl⟩
instance : FieldTy Try.prog 59 1 1 := ⟨fun _ _ => by kernel_rfl⟩
instance : BuildTy Try.prog 59 [(0, 1), (1, 1)] [.int .i64 0, .int .i64 0] := ⟨fun _ => by kernel_rfl, ⟨_, Try.underlying59, fun _ => by kernel_rfl⟩⟩
instance : AggTy Try.prog 63 2 := ⟨fun _ => by kernel_rfl, fun _ => by kernel_rfl⟩
instance : ElemTy Try.prog 63 (.agg #[.int .i64 0, .int .i64 0]) 2 16 := ⟨by kernel_rfl, rfl, by omega⟩
instance : FieldTy Try.prog 63 0 0 := ⟨fun _ _ => by kernel_rfl⟩
instance : FieldTy Try.prog 63 1 1 := ⟨fun _ _ => by kernel_rfl⟩
instance : BuildTy Try.prog 63 [(0, 1), (1, 1)] [.int .i64 0, .int .i64 0] := ⟨fun _ => by kernel_rfl, ⟨_, Try.underlying63, fun _ => by kernel_rfl⟩⟩
instance : SliceTy Try.prog 64 63 := ⟨by kernel_rfl⟩
instance : OneTy Try.prog 64 := ⟨fun _ => by kernel_rfl, fun _ => by kernel_rfl⟩
instance : ElemTy Try.prog 64 (.slice none 0 0) 1 24 := ⟨by kernel_rfl, rfl, by omega⟩
instance : AggTy Try.prog 65 4 := ⟨fun _ => by kernel_rfl, fun _ => by kernel_rfl⟩
instance : ElemTy Try.prog 65 (.agg #[.int .i64 0, .int .i64 0, .slice none 0 0, .int .i64 0]) 4 48 := ⟨by kernel_rfl, rfl, by omega⟩
instance : FieldTy Try.prog 65 0 0 := ⟨fun _ _ => by kernel_rfl⟩
instance : FieldTy Try.prog 65 1 2 := ⟨fun _ _ => by kernel_rfl⟩
instance : FieldTy Try.prog 65 2 3 := ⟨fun _ _ => by kernel_rfl⟩
instance : BuildTy Try.prog 65 [(0, 2), (2, 1), (3, 1)] [.int .i64 0, .int .i64 0, .slice none 0 0, .int .i64 0] := ⟨fun _ => by kernel_rfl, ⟨_, Try.underlying65, fun _ => by kernel_rfl⟩⟩
instance : AggTy Try.prog 66 4 := ⟨fun _ => by kernel_rfl, fun _ => by kernel_rfl⟩
instance : ElemTy Try.prog 66 (.agg #[.int .i64 0, .int .i64 0, .slice none 0 0, .int .i64 0]) 4 48 := ⟨by kernel_rfl, rfl, by omega⟩
instance : FieldTy Try.prog 66 0 0 := ⟨fun _ _ => by kernel_rfl⟩
instance : FieldTy Try.prog 66 1 2 := ⟨fun _ _ => by kernel_rfl⟩
instance : FieldTy Try.prog 66 2 3 := ⟨fun _ _ => by kernel_rfl⟩
instance : BuildTy Try.prog 66 [(0, 2), (2, 1), (3, 1)] [.int .i64 0, .int .i64 0, .slice none 0 0, .int .i64 0] := ⟨fun _ => by kernel_rfl, ⟨_, Try.underlying66, fun _ => by kernel_rfl⟩⟩
instance : AggTy Try.prog 67 11 := ⟨fun _ => by kernel_rfl, fun _ => by kernel_rfl⟩
instance : ElemTy Try.prog 67 (.agg #[.int .i64 0, .int .i64 0, .int .i64 0, .int .i64 0, .int .i64 0, .int .i64 0, .int .i64 0, .int .i64 0, .int .i64 0, .slice none 0 0, .int .i64 0]) 11 104 := ⟨by kernel_rfl, rfl, by omega⟩
instance : FieldTy Try.prog 67 0 0 := ⟨fun _ _ => by kernel_rfl⟩
instance : FieldTy Try.prog 67 1 1 := ⟨fun _ _ => by kernel_rfl⟩
instance : FieldTy Try.prog 67 2 2 := ⟨fun _ _ => by kernel_rfl⟩
instance : FieldTy Try.prog 67 3 3 := ⟨fun _ _ => by kernel_rfl⟩
instance : FieldTy Try.prog 67 4 4 := ⟨fun _ _ => by kernel_rfl⟩
instance : FieldTy Try.prog 67 5 5 := ⟨fun _ _ => by kernel_rfl⟩
instance : FieldTy Try.prog 67 6 6 := ⟨fun _ _ => by kernel_rfl⟩
instance : FieldTy Try.prog 67 7 7 := ⟨fun _ _ => by kernel_rfl⟩
instance : BuildTy Try.prog 67 [(0, 1), (1, 1), (2, 1), (3, 1), (4, 1), (5, 1), (6, 1), (7, 4)] [.int .i64 0, .int .i64 0, .int .i64 0, .int .i64 0, .int .i64 0, .int .i64 0, .int .i64 0, .int .i64 0, .int .i64 0, .slice none 0 0, .int .i64 0] := ⟨fun _ => by kernel_rfl, ⟨_, Try.underlying67, fun _ => by kernel_rfl⟩⟩
instance : AggTy Try.prog 68 11 := ⟨fun _ => by kernel_rfl, fun _ => by kernel_rfl⟩
instance : ElemTy Try.prog 68 (.agg #[.int .i64 0, .int .i64 0, .int .i64 0, .int .i64 0, .int .i64 0, .int .i64 0, .int .i64 0, .int .i64 0, .int .i64 0, .slice none 0 0, .int .i64 0]) 11 104 := ⟨by kernel_rfl, rfl, by omega⟩
instance : FieldTy Try.prog 68 0 0 := ⟨fun _ _ => by kernel_rfl⟩
instance : FieldTy Try.prog 68 1 1 := ⟨fun _ _ => by kernel_rfl⟩
instance : FieldTy Try.prog 68 2 2 := ⟨fun _ _ => by kernel_rfl⟩
instance : FieldTy Try.prog 68 3 3 := ⟨fun _ _ => by kernel_rfl⟩
instance : FieldTy Try.prog 68 4 4 := ⟨fun _ _ => by kernel_rfl⟩
instance : FieldTy Try.prog 68 5 5 := ⟨fun _ _ => by kernel_rfl⟩
instance : FieldTy Try.prog 68 6 6 := ⟨fun _ _ => by kernel_rfl⟩
instance : FieldTy Try.prog 68 7 7 := ⟨fun _ _ => by kernel_rfl⟩
instance : BuildTy Try.prog 68 [(0, 1), (1, 1), (2, 1), (3, 1), (4, 1), (5, 1), (6, 1), (7, 4)] [.int .i64 0, .int .i64 0, .int .i64 0, .int .i64 0, .int .i64 0, .int .i64 0, .int .i64 0, .int .i64 0, .int .i64 0, .slice none 0 0, .int .i64 0] := ⟨fun _ => by kernel_rfl, ⟨_, Try.underlying68, fun _ => by kernel_rfl⟩⟩
instance : AggTy Try.prog 79 4 := ⟨fun _ => by kernel_rfl, fun _ => by kernel_rfl⟩
instance : ElemTy Try.prog 79 (.agg #[.int .i64 0, .int .i64 0, .int .i64 0, .int .i64 0]) 4 32 := ⟨by kernel_rfl, rfl, by omega⟩
instance : FieldTy Try.prog 79 0 0 := ⟨fun _ _ => by kernel_rfl⟩
instance : FieldTy Try.prog 79 1 1 := ⟨fun _ _ => by kernel_rfl⟩
instance : FieldTy Try.prog 79 2 2 := ⟨fun _ _ => by kernel_rfl⟩
instance : FieldTy Try.prog 79 3 3 := ⟨fun _ _ => by kernel_rfl⟩
instance : BuildTy Try.prog 79 [(0, 1), (1, 1), (2, 1), (3, 1)] [.int .i64 0, .int .i64 0, .int .i64 0, .int .i64 0] := ⟨fun _ => by kernel_rfl, ⟨_, Try.underlying79, fun _ => by kernel_rfl⟩⟩
instance : AggTy Try.prog 81 2 := ⟨fun _ => by kernel_rfl, fun _ => by kernel_rfl⟩
instance : ElemTy Try.prog 81 (.agg #[.int .i64 0, .int .i64 0]) 2 16 := ⟨by kernel_rfl, rfl, by omega⟩
instance : FieldTy Try.prog 81 0 0 := ⟨fun _ _ => by kernel_rfl⟩
instance : FieldTy Try.prog 81 1 1 := ⟨fun _ _ => by kernel_rfl⟩
instance : BuildTy Try.prog 81 [(0, 1), (1, 1)] [.int .i64 0, .int .i64 0] := ⟨fun _ => by kernel_rfl, ⟨_, Try.underlying81, fun _ => by kernel_rfl⟩⟩
instance : OneTy Try.prog 86 := ⟨fun _ => by kernel_rfl, fun _ => by kernel_rfl⟩
instance : ElemTy Try.prog 86 (.pointer none) 1 8 := ⟨by kernel_rfl, rfl, by omega⟩
instance : AggTy Try.prog 103 2 := ⟨fun _ => by kernel_rfl, fun _ => by kernel_rfl⟩
instance : ElemTy Try.prog 103 (.agg #[.slice none 0 0, .int .i64 0]) 2 32 := ⟨by kernel_rfl, rfl, by omega⟩
instance : FieldTy Try.prog 103 0 0 := ⟨fun _ _ => by kernel_rfl⟩
instance : FieldTy Try.prog 103 1 1 := ⟨fun _ _ => by kernel_rfl⟩
instance : BuildTy Try.prog 103 [(0, 1), (1, 1)] [.slice none 0 0, .int .i64 0] := ⟨fun _ => by kernel_rfl, ⟨_, Try.underlying103, fun _ => by kernel_rfl⟩⟩
instance : AggTy Try.prog 104 2 := ⟨fun _ => by kernel_rfl, fun _ => by kernel_rfl⟩
instance : ElemTy Try.prog 104 (.agg #[.slice none 0 0, .int .i64 0]) 2 32 := ⟨by kernel_rfl, rfl, by omega⟩
instance : FieldTy Try.prog 104 0 0 := ⟨fun _ _ => by kernel_rfl⟩
instance : FieldTy Try.prog 104 1 1 := ⟨fun _ _ => by kernel_rfl⟩
instance : BuildTy Try.prog 104 [(0, 1), (1, 1)] [.slice none 0 0, .int .i64 0] := ⟨fun _ => by kernel_rfl, ⟨_, Try.underlying104, fun _ => by kernel_rfl⟩⟩
instance : OneTy Try.prog 129 := ⟨fun _ => by kernel_rfl, fun _ => by kernel_rfl⟩
instance : ElemTy Try.prog 129 (.int .u32 0) 1 4 := ⟨by kernel_rfl, rfl, by omega⟩
instance : OneTy Try.prog 133 := ⟨fun _ => by kernel_rfl, fun _ => by kernel_rfl⟩
instance : ElemTy Try.prog 133 (.pointer none) 1 8 := ⟨by kernel_rfl, rfl, by omega⟩
instance : FnOk Try.prog 3 := ⟨fun _ _ => by kernel_rfl⟩
instance : FnOk Try.prog 4 := ⟨fun _ _ => by kernel_rfl⟩
instance : FnOk Try.prog 5 := ⟨fun _ _ => by kernel_rfl⟩
instance : FnOk Try.prog 6 := ⟨fun _ _ => by kernel_rfl⟩
instance : FnOk Try.prog 7 := ⟨fun _ _ => by kernel_rfl⟩
instance : FnOk Try.prog 8 := ⟨fun _ _ => by kernel_rfl⟩
instance : FnOk Try.prog 9 := ⟨fun _ _ => by kernel_rfl⟩
instance : FnOk Try.prog 10 := ⟨fun _ _ => by kernel_rfl⟩
instance : FnOk Try.prog 11 := ⟨fun _ _ => by kernel_rfl⟩
instance : FnOk Try.prog 12 := ⟨fun _ _ => by kernel_rfl⟩
instance : FnOk Try.prog 13 := ⟨fun _ _ => by kernel_rfl⟩
instance : FnOk Try.prog 14 := ⟨fun _ _ => by kernel_rfl⟩
instance : FnOk Try.prog 15 := ⟨fun _ _ => by kernel_rfl⟩
instance : FnOk Try.prog 16 := ⟨fun _ _ => by kernel_rfl⟩
instance : FnOk Try.prog 17 := ⟨fun _ _ => by kernel_rfl⟩
instance : FnOk Try.prog 18 := ⟨fun _ _ => by kernel_rfl⟩
instance : FnOk Try.prog 19 := ⟨fun _ _ => by kernel_rfl⟩
instance : FnOk Try.prog 20 := ⟨fun _ _ => by kernel_rfl⟩
instance : FnOk Try.prog 21 := ⟨fun _ _ => by kernel_rfl⟩
instance : FnOk Try.prog 22 := ⟨fun _ _ => by kernel_rfl⟩
instance : FnOk Try.prog 23 := ⟨fun _ _ => by kernel_rfl⟩
instance : FnOk Try.prog 24 := ⟨fun _ _ => by kernel_rfl⟩
instance : FnOk Try.prog 25 := ⟨fun _ _ => by kernel_rfl⟩
instance : FnOk Try.prog 26 := ⟨fun _ _ => by kernel_rfl⟩
instance : FnOk Try.prog 27 := ⟨fun _ _ => by kernel_rfl⟩
instance : FnOk Try.prog 28 := ⟨fun _ _ => by kernel_rfl⟩
instance : FnOk Try.prog 29 := ⟨fun _ _ => by kernel_rfl⟩
instance : FnOk Try.prog 30 := ⟨fun _ _ => by kernel_rfl⟩
instance : FnOk Try.prog 31 := ⟨fun _ _ => by kernel_rfl⟩
instance : FnOk Try.prog 32 := ⟨fun _ _ => by kernel_rfl⟩
instance : FnOk Try.prog 33 := ⟨fun _ _ => by kernel_rfl⟩
instance : FnOk Try.prog 34 := ⟨fun _ _ => by kernel_rfl⟩
instance : FnOk Try.prog 35 := ⟨fun _ _ => by kernel_rfl⟩
instance : FnOk Try.prog 36 := ⟨fun _ _ => by kernel_rfl⟩
instance : FnOk Try.prog 37 := ⟨fun _ _ => by kernel_rfl⟩
instance : FnOk Try.prog 38 := ⟨fun _ _ => by kernel_rfl⟩
instance : FnOk Try.prog 39 := ⟨fun _ _ => by kernel_rfl⟩
instance : FnOk Try.prog 40 := ⟨fun _ _ => by kernel_rfl⟩
instance : FnOk Try.prog 41 := ⟨fun _ _ => by kernel_rfl⟩
instance : FnOk Try.prog 42 := ⟨fun _ _ => by kernel_rfl⟩
instance : FnOk Try.prog 43 := ⟨fun _ _ => by kernel_rfl⟩
instance : FnOk Try.prog 44 := ⟨fun _ _ => by kernel_rfl⟩
instance : FnOk Try.prog 45 := ⟨fun _ _ => by kernel_rfl⟩
instance : FnOk Try.prog 46 := ⟨fun _ _ => by kernel_rfl⟩
instance : FnOk Try.prog 47 := ⟨fun _ _ => by kernel_rfl⟩
instance : FnOk Try.prog 48 := ⟨fun _ _ => by kernel_rfl⟩
instance : FnOk Try.prog 49 := ⟨fun _ _ => by kernel_rfl⟩
instance : FnOk Try.prog 50 := ⟨fun _ _ => by kernel_rfl⟩
instance : FnOk Try.prog 51 := ⟨fun _ _ => by kernel_rfl⟩
instance : FnOk Try.prog 52 := ⟨fun _ _ => by kernel_rfl⟩
instance : FnOk Try.prog 53 := ⟨fun _ _ => by kernel_rfl⟩
instance : FnOk Try.prog 54 := ⟨fun _ _ => by kernel_rfl⟩
instance : FnOk Try.prog 55 := ⟨fun _ _ => by kernel_rfl⟩
instance : FnOk Try.prog 56 := ⟨fun _ _ => by kernel_rfl⟩
instance : FnOk Try.prog 57 := ⟨fun _ _ => by kernel_rfl⟩
instance : FnOk Try.prog 58 := ⟨fun _ _ => by kernel_rfl⟩
instance : FnOk Try.prog 59 := ⟨fun _ _ => by kernel_rfl⟩
instance : FnOk Try.prog 60 := ⟨fun _ _ => by kernel_rfl⟩
instance : FnOk Try.prog 61 := ⟨fun _ _ => by kernel_rfl⟩
instance : FnOk Try.prog 62 := ⟨fun _ _ => by kernel_rfl⟩
instance : FnOk Try.prog 63 := ⟨fun _ _ => by kernel_rfl⟩
instance : FnOk Try.prog 64 := ⟨fun _ _ => by kernel_rfl⟩
instance : FnOk Try.prog 65 := ⟨fun _ _ => by kernel_rfl⟩
instance : FnOk Try.prog 66 := ⟨fun _ _ => by kernel_rfl⟩
instance : FnOk Try.prog 67 := ⟨fun _ _ => by kernel_rfl⟩
instance : FnOk Try.prog 68 := ⟨fun _ _ => by kernel_rfl⟩
instance : FnOk Try.prog 69 := ⟨fun _ _ => by kernel_rfl⟩
instance : FnOk Try.prog 70 := ⟨fun _ _ => by kernel_rfl⟩
instance : FnOk Try.prog 71 := ⟨fun _ _ => by kernel_rfl⟩
instance : FnOk Try.prog 72 := ⟨fun _ _ => by kernel_rfl⟩
instance : FnOk Try.prog 73 := ⟨fun _ _ => by kernel_rfl⟩
instance : FnOk Try.prog 74 := ⟨fun _ _ => by kernel_rfl⟩
instance : FnOk Try.prog 75 := ⟨fun _ _ => by kernel_rfl⟩
instance : FnOk Try.prog 76 := ⟨fun _ _ => by kernel_rfl⟩
instance : FnOk Try.prog 77 := ⟨fun _ _ => by kernel_rfl⟩
instance : FnOk Try.prog 78 := ⟨fun _ _ => by kernel_rfl⟩
instance : FnOk Try.prog 79 := ⟨fun _ _ => by kernel_rfl⟩
instance : FnOk Try.prog 80 := ⟨fun _ _ => by kernel_rfl⟩
instance : FnOk Try.prog 81 := ⟨fun _ _ => by kernel_rfl⟩
instance : FnOk Try.prog 82 := ⟨fun _ _ => by kernel_rfl⟩
instance : FnOk Try.prog 83 := ⟨fun _ _ => by kernel_rfl⟩
instance : FnOk Try.prog 84 := ⟨fun _ _ => by kernel_rfl⟩
instance : FnOk Try.prog 85 := ⟨fun _ _ => by kernel_rfl⟩
instance : FnOk Try.prog 86 := ⟨fun _ _ => by kernel_rfl⟩
instance : FnOk Try.prog 87 := ⟨fun _ _ => by kernel_rfl⟩
instance : FnOk Try.prog 88 := ⟨fun _ _ => by kernel_rfl⟩
instance : FnOk Try.prog 89 := ⟨fun _ _ => by kernel_rfl⟩
instance : FnOk Try.prog 90 := ⟨fun _ _ => by kernel_rfl⟩
instance : FnOk Try.prog 91 := ⟨fun _ _ => by kernel_rfl⟩
instance : FnOk Try.prog 92 := ⟨fun _ _ => by kernel_rfl⟩
instance : FnOk Try.prog 93 := ⟨fun _ _ => by kernel_rfl⟩
instance : FnOk Try.prog 94 := ⟨fun _ _ => by kernel_rfl⟩
instance : FnOk Try.prog 95 := ⟨fun _ _ => by kernel_rfl⟩
instance : FnOk Try.prog 96 := ⟨fun _ _ => by kernel_rfl⟩
instance : FnOk Try.prog 97 := ⟨fun _ _ => by kernel_rfl⟩
instance : FnOk Try.prog 98 := ⟨fun _ _ => by kernel_rfl⟩
instance : FnOk Try.prog 99 := ⟨fun _ _ => by kernel_rfl⟩
instance : FnOk Try.prog 100 := ⟨fun _ _ => by kernel_rfl⟩
end Go.Proofs.Ytaggfcghkfkngaa
