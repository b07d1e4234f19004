/- Facts of types and functions of the given program, out of its translation's tables, each by the kernel's own reckoning. No condition. -/
import Derived.Test.YtpflkichnjfgkaaProg
import Derived.KernelRfl
import Derived.Test.YtpflkichnjfgkaaSym
namespace Go.Proofs.Ytpflkichnjfgkaa
open Go.RowKit

instance : I64Ty Try.prog 2 := ⟨by kernel_rfl⟩
instance : OneTy Try.prog 2 := ⟨fun _ => by kernel_rfl, fun _ => by kernel_rfl⟩
instance : ElemTy Try.prog 2 (.int .i64 0) 1 8 := ⟨by kernel_rfl, rfl, by omega⟩
instance : I64Ty Try.prog 3 := ⟨by kernel_rfl⟩
instance : OneTy Try.prog 3 := ⟨fun _ => by kernel_rfl, fun _ => by kernel_rfl⟩
instance : ElemTy Try.prog 3 (.int .i64 0) 1 8 := ⟨by kernel_rfl, rfl, by omega⟩
instance : BoolTy Try.prog 4 := ⟨by kernel_rfl⟩
instance : OneTy Try.prog 4 := ⟨fun _ => by kernel_rfl, fun _ => by kernel_rfl⟩
instance : ElemTy Try.prog 4 (.bool false) 1 1 := ⟨by kernel_rfl, rfl, by omega⟩
instance : U8Ty Try.prog 5 := ⟨by kernel_rfl⟩
instance : OneTy Try.prog 5 := ⟨fun _ => by kernel_rfl, fun _ => by kernel_rfl⟩
instance : ElemTy Try.prog 5 (.int .u8 0) 1 1 := ⟨by kernel_rfl, rfl, by omega⟩
instance : OneTy Try.prog 12 := ⟨fun _ => by kernel_rfl, fun _ => by kernel_rfl⟩
instance : ElemTy Try.prog 12 (.int .u64 0) 1 8 := ⟨by kernel_rfl, rfl, by omega⟩
instance : OneTy Try.prog 21 := ⟨fun _ => by kernel_rfl, fun _ => by kernel_rfl⟩
instance : ElemTy Try.prog 21 (.int .i32 0) 1 4 := ⟨by kernel_rfl, rfl, by omega⟩
instance : SliceTy Try.prog 22 5 := ⟨by kernel_rfl⟩
instance : OneTy Try.prog 22 := ⟨fun _ => by kernel_rfl, fun _ => by kernel_rfl⟩
instance : ElemTy Try.prog 22 (.slice none 0 0) 1 24 := ⟨by kernel_rfl, rfl, by omega⟩
instance : SliceTy Try.prog 23 34 := ⟨by kernel_rfl⟩
instance : OneTy Try.prog 23 := ⟨fun _ => by kernel_rfl, fun _ => by kernel_rfl⟩
instance : ElemTy Try.prog 23 (.slice none 0 0) 1 24 := ⟨by kernel_rfl, rfl, by omega⟩
instance : SliceTy Try.prog 25 3 := ⟨by kernel_rfl⟩
instance : OneTy Try.prog 25 := ⟨fun _ => by kernel_rfl, fun _ => by kernel_rfl⟩
instance : ElemTy Try.prog 25 (.slice none 0 0) 1 24 := ⟨by kernel_rfl, rfl, by omega⟩
instance : AggTy Try.prog 28 2 := ⟨fun _ => by kernel_rfl, fun _ => by kernel_rfl⟩
instance : ElemTy Try.prog 28 (.agg #[.int .i64 0, .int .i64 0]) 2 16 := ⟨by kernel_rfl, rfl, by omega⟩
instance : FieldTy Try.prog 28 0 0 := ⟨fun _ _ => by kernel_rfl⟩
instance : FieldTy Try.prog 28 1 1 := ⟨fun _ _ => by kernel_rfl⟩
instance : BuildTy Try.prog 28 [(0, 1), (1, 1)] [.int .i64 0, .int .i64 0] := ⟨fun _ => by kernel_rfl, ⟨_, Try.underlying28, fun _ => by kernel_rfl⟩⟩
instance : AggTy Try.prog 29 2 := ⟨fun _ => by kernel_rfl, fun _ => by kernel_rfl⟩
instance : ElemTy Try.prog 29 (.agg #[.int .i64 0, .int .i64 0]) 2 16 := ⟨by kernel_rfl, rfl, by omega⟩
instance : FieldTy Try.prog 29 0 0 := ⟨fun _ _ => by kernel_rfl⟩
instance : FieldTy Try.prog 29 1 1 := ⟨fun _ _ => by kernel_rfl⟩
instance : BuildTy Try.prog 29 [(0, 1), (1, 1)] [.int .i64 0, .int .i64 0] := ⟨fun _ => by kernel_rfl, ⟨_, Try.underlying29, fun _ => by kernel_rfl⟩⟩
instance : SliceTy Try.prog 30 29 := ⟨by kernel_rfl⟩
instance : OneTy Try.prog 30 := ⟨fun _ => by kernel_rfl, fun _ => by kernel_rfl⟩
instance : ElemTy Try.prog 30 (.slice none 0 0) 1 24 := ⟨by kernel_rfl, rfl, by omega⟩
instance : AggTy Try.prog 31 4 := ⟨fun _ => by kernel_rfl, fun _ => by kernel_rfl⟩
instance : ElemTy Try.prog 31 (.agg #[.int .i64 0, .int .i64 0, .slice none 0 0, .int .i64 0]) 4 48 := ⟨by kernel_rfl, rfl, by omega⟩
instance : FieldTy Try.prog 31 0 0 := ⟨fun _ _ => by kernel_rfl⟩
instance : FieldTy Try.prog 31 1 2 := ⟨fun _ _ => by kernel_rfl⟩
instance : FieldTy Try.prog 31 2 3 := ⟨fun _ _ => by kernel_rfl⟩
instance : BuildTy Try.prog 31 [(0, 2), (2, 1), (3, 1)] [.int .i64 0, .int .i64 0, .slice none 0 0, .int .i64 0] := ⟨fun _ => by kernel_rfl, ⟨_, Try.underlying31, fun _ => by kernel_rfl⟩⟩
instance : AggTy Try.prog 32 4 := ⟨fun _ => by kernel_rfl, fun _ => by kernel_rfl⟩
instance : ElemTy Try.prog 32 (.agg #[.int .i64 0, .int .i64 0, .slice none 0 0, .int .i64 0]) 4 48 := ⟨by kernel_rfl, rfl, by omega⟩
instance : FieldTy Try.prog 32 0 0 := ⟨fun _ _ => by kernel_rfl⟩
instance : FieldTy Try.prog 32 1 2 := ⟨fun _ _ => by kernel_rfl⟩
instance : FieldTy Try.prog 32 2 3 := ⟨fun _ _ => by kernel_rfl⟩
instance : BuildTy Try.prog 32 [(0, 2), (2, 1), (3, 1)] [.int .i64 0, .int .i64 0, .slice none 0 0, .int .i64 0] := ⟨fun _ => by kernel_rfl, ⟨_, Try.underlying32, fun _ => by kernel_rfl⟩⟩
instance : AggTy Try.prog 33 11 := ⟨fun _ => by kernel_rfl, fun _ => by kernel_rfl⟩
instance : ElemTy Try.prog 33 (.agg #[.int .i64 0, .int .i64 0, .int .i64 0, .int .i64 0, .int .i64 0, .int .i64 0, .int .i64 0, .int .i64 0, .int .i64 0, .slice none 0 0, .int .i64 0]) 11 104 := ⟨by kernel_rfl, rfl, by omega⟩
instance : FieldTy Try.prog 33 0 0 := ⟨fun _ _ => by kernel_rfl⟩
instance : FieldTy Try.prog 33 1 1 := ⟨fun _ _ => by kernel_rfl⟩
instance : FieldTy Try.prog 33 2 2 := ⟨fun _ _ => by kernel_rfl⟩
instance : FieldTy Try.prog 33 3 3 := ⟨fun _ _ => by kernel_rfl⟩
instance : FieldTy Try.prog 33 4 4 := ⟨fun _ _ => by kernel_rfl⟩
instance : FieldTy Try.prog 33 5 5 := ⟨fun _ _ => by kernel_rfl⟩
instance : FieldTy Try.prog 33 6 6 := ⟨fun _ _ => by kernel_rfl⟩
instance : FieldTy Try.prog 33 7 7 := ⟨fun _ _ => by kernel_rfl⟩
instance : BuildTy Try.prog 33 [(0, 1), (1, 1), (2, 1), (3, 1), (4, 1), (5, 1), (6, 1), (7, 4)] [.int .i64 0, .int .i64 0, .int .i64 0, .int .i64 0, .int .i64 0, .int .i64 0, .int .i64 0, .int .i64 0, .int .i64 0, .slice none 0 0, .int .i64 0] := ⟨fun _ => by kernel_rfl, ⟨_, Try.underlying33, fun _ => by kernel_rfl⟩⟩
instance : AggTy Try.prog 34 11 := ⟨fun _ => by kernel_rfl, fun _ => by kernel_rfl⟩
instance : ElemTy Try.prog 34 (.agg #[.int .i64 0, .int .i64 0, .int .i64 0, .int .i64 0, .int .i64 0, .int .i64 0, .int .i64 0, .int .i64 0, .int .i64 0, .slice none 0 0, .int .i64 0]) 11 104 := ⟨by kernel_rfl, rfl, by omega⟩
instance : FieldTy Try.prog 34 0 0 := ⟨fun _ _ => by kernel_rfl⟩
instance : FieldTy Try.prog 34 1 1 := ⟨fun _ _ => by kernel_rfl⟩
instance : FieldTy Try.prog 34 2 2 := ⟨fun _ _ => by kernel_rfl⟩
instance : FieldTy Try.prog 34 3 3 := ⟨fun _ _ => by kernel_rfl⟩
instance : FieldTy Try.prog 34 4 4 := ⟨fun _ _ => by kernel_rfl⟩
instance : FieldTy Try.prog 34 5 5 := ⟨fun _ _ => by kernel_rfl⟩
instance : FieldTy Try.prog 34 6 6 := ⟨fun _ _ => by kernel_rfl⟩
instance : FieldTy Try.prog 34 7 7 := ⟨fun _ _ => by kernel_rfl⟩
instance : BuildTy Try.prog 34 [(0, 1), (1, 1), (2, 1), (3, 1), (4, 1), (5, 1), (6, 1), (7, 4)] [.int .i64 0, .int .i64 0, .int .i64 0, .int .i64 0, .int .i64 0, .int .i64 0, .int .i64 0, .int .i64 0, .int .i64 0, .slice none 0 0, .int .i64 0] := ⟨fun _ => by kernel_rfl, ⟨_, Try.underlying34, fun _ => by kernel_rfl⟩⟩
instance : SliceTy Try.prog 38 25 := ⟨by kernel_rfl⟩
instance : OneTy Try.prog 38 := ⟨fun _ => by kernel_rfl, fun _ => by kernel_rfl⟩
instance : ElemTy Try.prog 38 (.slice none 0 0) 1 24 := ⟨by kernel_rfl, rfl, by omega⟩
instance : SliceTy Try.prog 40 68 := ⟨by kernel_rfl⟩
instance : OneTy Try.prog 40 := ⟨fun _ => by kernel_rfl, fun _ => by kernel_rfl⟩
instance : ElemTy Try.prog 40 (.slice none 0 0) 1 24 := ⟨by kernel_rfl, rfl, by omega⟩
instance : AggTy Try.prog 48 3 := ⟨fun _ => by kernel_rfl, fun _ => by kernel_rfl⟩
instance : ElemTy Try.prog 48 (.agg #[.int .i64 0, .slice none 0 0, .slice none 0 0]) 3 56 := ⟨by kernel_rfl, rfl, by omega⟩
instance : FieldTy Try.prog 48 0 0 := ⟨fun _ _ => by kernel_rfl⟩
instance : FieldTy Try.prog 48 1 1 := ⟨fun _ _ => by kernel_rfl⟩
instance : FieldTy Try.prog 48 2 2 := ⟨fun _ _ => by kernel_rfl⟩
instance : BuildTy Try.prog 48 [(0, 1), (1, 1), (2, 1)] [.int .i64 0, .slice none 0 0, .slice none 0 0] := ⟨fun _ => by kernel_rfl, ⟨_, Try.underlying48, fun _ => by kernel_rfl⟩⟩
instance : AggTy Try.prog 49 3 := ⟨fun _ => by kernel_rfl, fun _ => by kernel_rfl⟩
instance : ElemTy Try.prog 49 (.agg #[.int .i64 0, .slice none 0 0, .slice none 0 0]) 3 56 := ⟨by kernel_rfl, rfl, by omega⟩
instance : FieldTy Try.prog 49 0 0 := ⟨fun _ _ => by kernel_rfl⟩
instance : FieldTy Try.prog 49 1 1 := ⟨fun _ _ => by kernel_rfl⟩
instance : FieldTy Try.prog 49 2 2 := ⟨fun _ _ => by kernel_rfl⟩
instance : BuildTy Try.prog 49 [(0, 1), (1, 1), (2, 1)] [.int .i64 0, .slice none 0 0, .slice none 0 0] := ⟨fun _ => by kernel_rfl, ⟨_, Try.underlying49, fun _ => by kernel_rfl⟩⟩
instance : OneTy Try.prog 54 := ⟨fun _ => by kernel_rfl, fun _ => by kernel_rfl⟩
instance : ElemTy Try.prog 54 (.pointer none) 1 8 := ⟨by kernel_rfl, rfl, by omega⟩
instance : AggTy Try.prog 63 2 := ⟨fun _ => by kernel_rfl, fun _ => by kernel_rfl⟩
instance : ElemTy Try.prog 63 (.agg #[.int .i64 0, .int .i64 0]) 2 16 := ⟨by kernel_rfl, rfl, by omega⟩
instance : FieldTy Try.prog 63 0 0 := ⟨fun _ _ => by kernel_rfl⟩
instance : FieldTy Try.prog 63 1 1 := ⟨fun _ _ => by kernel_rfl⟩
instance : BuildTy Try.prog 63 [(0, 1), (1, 1)] [.int .i64 0, .int .i64 0] := ⟨fun _ => by kernel_rfl, ⟨_, Try.underlying63, fun _ => by kernel_rfl⟩⟩
instance : SliceTy Try.prog 64 63 := ⟨by kernel_rfl⟩
instance : OneTy Try.prog 64 := ⟨fun _ => by kernel_rfl, fun _ => by kernel_rfl⟩
instance : ElemTy Try.prog 64 (.slice none 0 0) 1 24 := ⟨by kernel_rfl, rfl, by omega⟩
instance : AggTy Try.prog 65 4 := ⟨fun _ => by kernel_rfl, fun _ => by kernel_rfl⟩
instance : ElemTy Try.prog 65 (.agg #[.int .i64 0, .int .i64 0, .slice none 0 0, .int .i64 0]) 4 48 := ⟨by kernel_rfl, rfl, by omega⟩
instance : FieldTy Try.prog 65 0 0 := ⟨fun _ _ => by kernel_rfl⟩
instance : FieldTy Try.prog 65 1 2 := ⟨fun _ _ => by kernel_rfl⟩
instance : FieldTy Try.prog 65 2 3 := ⟨fun _ _ => by kernel_rfl⟩
instance : BuildTy Try.prog 65 [(0, 2), (2, 1), (3, 1)] [.int .i64 0, .int .i64 0, .slice none 0 0, .int .i64 0] := ⟨fun _ => by kernel_rfl, ⟨_, Try.underlying65, fun _ => by kernel_rfl⟩⟩
instance : AggTy Try.prog 66 4 := ⟨fun _ => by kernel_rfl, fun _ => by kernel_rfl⟩
instance : ElemTy Try.prog 66 (.agg #[.int .i64 0, .int .i64 0, .slice none 0 0, .int .i64 0]) 4 48 := ⟨by kernel_rfl, rfl, by omega⟩
instance : FieldTy Try.prog 66 0 0 := ⟨fun _ _ => by kernel_rfl⟩
instance : FieldTy Try.prog 66 1 2 := ⟨fun _ _ => by kernel_rfl⟩
instance : FieldTy Try.prog 66 2 3 := ⟨fun _ _ => by kernel_rfl⟩
instance : BuildTy Try.prog 66 [(0, 2), (2, 1), (3, 1)] [.int .i64 0, .int .i64 0, .slice none 0 0, .int .i64 0] := ⟨fun _ => by kernel_rfl, ⟨_, Try.underlying66, fun _ => by kernel_rfl⟩⟩
instance : AggTy Try.prog 67 11 := ⟨fun _ => by kernel_rfl, fun _ => by kernel_rfl⟩
instance : ElemTy Try.prog 67 (.agg #[.int .i64 0, .int .i64 0, .int .i64 0, .int .i64 0, .int .i64 0, .int .i64 0, .int .i64 0, .int .i64 0, .int .i64 0, .slice none 0 0, .int .i64 0]) 11 104 := ⟨by kernel_rfl, rfl, by omega⟩
instance : FieldTy Try.prog 67 0 0 := ⟨fun _ _ => by kernel_rfl⟩
instance : FieldTy Try.prog 67 1 1 := ⟨fun _ _ => by kernel_rfl⟩
instance : FieldTy Try.prog 67 2 2 := ⟨fun _ _ => by kernel_rfl⟩
instance : FieldTy Try.prog 67 3 3 := ⟨fun _ _ => by kernel_rfl⟩
instance : FieldTy Try.prog 67 4 4 := ⟨fun _ _ => by kernel_rfl⟩
instance : FieldTy Try.prog 67 5 5 := ⟨fun _ _ => by kernel_rfl⟩
instance : FieldTy Try.prog 67 6 6 := ⟨fun _ _ => by kernel_rfl⟩
instance : FieldTy Try.prog 67 7 7 := ⟨fun _ _ => by kernel_rfl⟩
instance : BuildTy Try.prog 67 [(0, 1), (1, 1), (2, 1), (3, 1), (4, 1), (5, 1), (6, 1), (7, 4)] [.int .i64 0, .int .i64 0, .int .i64 0, .int .i64 0, .int .i64 0, .int .i64 0, .int .i64 0, .int .i64 0, .int .i64 0, .slice none 0 0, .int .i64 0] := ⟨fun _ => by kernel_rfl, ⟨_, Try.underlying67, fun _ => by kernel_rfl⟩⟩
instance : AggTy Try.prog 68 11 := ⟨fun _ => by kernel_rfl, fun _ => by kernel_rfl⟩
instance : ElemTy Try.prog 68 (.agg #[.int .i64 0, .int .i64 0, .int .i64 0, .int .i64 0, .int .i64 0, .int .i64 0, .int .i64 0, .int .i64 0, .int .i64 0, .slice none 0 0, .int .i64 0]) 11 104 := ⟨by kernel_rfl, rfl, by omega⟩
instance : FieldTy Try.prog 68 0 0 := ⟨fun _ _ => by kernel_rfl⟩
instance : FieldTy Try.prog 68 1 1 := ⟨fun _ _ => by kernel_rfl⟩
instance : FieldTy Try.prog 68 2 2 := ⟨fun _ _ => by kernel_rfl⟩
instance : FieldTy Try.prog 68 3 3 := ⟨fun _ _ => by kernel_rfl⟩
instance : FieldTy Try.prog 68 4 4 := ⟨fun _ _ => by kernel_rfl⟩
instance : FieldTy Try.prog 68 5 5 := ⟨fun _ _ => by kernel_rfl⟩
instance : FieldTy Try.prog 68 6 6 := ⟨fun _ _ => by kernel_rfl⟩
instance : FieldTy Try.prog 68 7 7 := ⟨fun _ _ => by kernel_rfl⟩
instance : BuildTy Try.prog 68 [(0, 1), (1, 1), (2, 1), (3, 1), (4, 1), (5, 1), (6, 1), (7, 4)] [.int .i64 0, .int .i64 0, .int .i64 0, .int .i64 0, .int .i64 0, .int .i64 0, .int .i64 0, .int .i64 0, .int .i64 0, .slice none 0 0, .int .i64 0] := ⟨fun _ => by kernel_rfl, ⟨_, Try.underlying68, fun _ => by kernel_rfl⟩⟩
instance : AggTy Try.prog 77 2 := ⟨fun _ => by kernel_rfl, fun _ => by kernel_rfl⟩
instance : ElemTy Try.prog 77 (.agg #[.slice none 0 0, .int .i64 0]) 2 32 := ⟨by kernel_rfl, rfl, by omega⟩
instance : FieldTy Try.prog 77 0 0 := ⟨fun _ _ => by kernel_rfl⟩
instance : FieldTy Try.prog 77 1 1 := ⟨fun _ _ => by kernel_rfl⟩
instance : BuildTy Try.prog 77 [(0, 1), (1, 1)] [.slice none 0 0, .int .i64 0] := ⟨fun _ => by kernel_rfl, ⟨_, Try.underlying77, fun _ => by kernel_rfl⟩⟩
instance : AggTy Try.prog 78 2 := ⟨fun _ => by kernel_rfl, fun _ => by kernel_rfl⟩
instance : ElemTy Try.prog 78 (.agg #[.slice none 0 0, .int .i64 0]) 2 32 := ⟨by kernel_rfl, rfl, by omega⟩
instance : FieldTy Try.prog 78 0 0 := ⟨fun _ _ => by kernel_rfl⟩
instance : FieldTy Try.prog 78 1 1 := ⟨fun _ _ => by kernel_rfl⟩
instance : BuildTy Try.prog 78 [(0, 1), (1, 1)] [.slice none 0 0, .int .i64 0] := ⟨fun _ => by kernel_rfl, ⟨_, Try.underlying78, fun _ => by kernel_rfl⟩⟩
instance : OneTy Try.prog 86 := ⟨fun _ => by kernel_rfl, fun _ => by kernel_rfl⟩
instance : ElemTy Try.prog 86 (.int .u64 0) 1 8 := ⟨by kernel_rfl, rfl, by omega⟩
instance : OneTy Try.prog 105 := ⟨fun _ => by kernel_rfl, fun _ => by kernel_rfl⟩
instance : ElemTy Try.prog 105 (.int .u32 0) 1 4 := ⟨by kernel_rfl, rfl, by omega⟩
instance : OneTy Try.prog 107 := ⟨fun _ => by kernel_rfl, fun _ => by kernel_rfl⟩
instance : ElemTy Try.prog 107 (.int .u64 0) 1 8 := ⟨by kernel_rfl, rfl, by omega⟩
instance : OneTy Try.prog 124 := ⟨fun _ => by kernel_rfl, fun _ => by kernel_rfl⟩
instance : ElemTy Try.prog 124 (.pointer none) 1 8 := ⟨by kernel_rfl, rfl, by omega⟩
instance : OneTy Try.prog 142 := ⟨fun _ => by kernel_rfl, fun _ => by kernel_rfl⟩
instance : ElemTy Try.prog 142 (.pointer none) 1 8 := ⟨by kernel_rfl, rfl, by omega⟩
instance : FnOk Try.prog 3 := ⟨fun _ _ => by kernel_rfl⟩
instance : FnOk Try.prog 4 := ⟨fun _ _ => by kernel_rfl⟩
instance : FnOk Try.prog 5 := ⟨fun _ _ => by kernel_rfl⟩
instance : FnOk Try.prog 6 := ⟨fun _ _ => by kernel_rfl⟩
instance : FnOk Try.prog 7 := ⟨fun _ _ => by kernel_rfl⟩
instance : FnOk Try.prog 8 := ⟨fun _ _ => by kernel_rfl⟩
instance : FnOk Try.prog 9 := ⟨fun _ _ => by kernel_rfl⟩
instance : FnOk Try.prog 10 := ⟨fun _ _ => by kernel_rfl⟩
instance : FnOk Try.prog 11 := ⟨fun _ _ => by kernel_rfl⟩
instance : FnOk Try.prog 12 := ⟨fun _ _ => by kernel_rfl⟩
instance : FnOk Try.prog 13 := ⟨fun _ _ => by kernel_rfl⟩
instance : FnOk Try.prog 14 := ⟨fun _ _ => by kernel_rfl⟩
instance : FnOk Try.prog 15 := ⟨fun _ _ => by kernel_rfl⟩
instance : FnOk Try.prog 16 := ⟨fun _ _ => by kernel_rfl⟩
instance : FnOk Try.prog 17 := ⟨fun _ _ => by kernel_rfl⟩
instance : FnOk Try.prog 18 := ⟨fun _ _ => by kernel_rfl⟩
instance : FnOk Try.prog 19 := ⟨fun _ _ => by kernel_rfl⟩
instance : FnOk Try.prog 20 := ⟨fun _ _ => by kernel_rfl⟩
instance : FnOk Try.prog 21 := ⟨fun _ _ => by kernel_rfl⟩
instance : FnOk Try.prog 22 := ⟨fun _ _ => by kernel_rfl⟩
instance : FnOk Try.prog 23 := ⟨fun _ _ => by kernel_rfl⟩
instance : FnOk Try.prog 24 := ⟨fun _ _ => by kernel_rfl⟩
instance : FnOk Try.prog 25 := ⟨fun _ _ => by kernel_rfl⟩
instance : FnOk Try.prog 26 := ⟨fun _ _ => by kernel_rfl⟩
instance : FnOk Try.prog 27 := ⟨fun _ _ => by kernel_rfl⟩
instance : FnOk Try.prog 28 := ⟨fun _ _ => by kernel_rfl⟩
instance : FnOk Try.prog 29 := ⟨fun _ _ => by kernel_rfl⟩
instance : FnOk Try.prog 30 := ⟨fun _ _ => by kernel_rfl⟩
instance : FnOk Try.prog 31 := ⟨fun _ _ => by kernel_rfl⟩
instance : FnOk Try.prog 32 := ⟨fun _ _ => by kernel_rfl⟩
instance : FnOk Try.prog 33 := ⟨fun _ _ => by kernel_rfl⟩
instance : FnOk Try.prog 34 := ⟨fun _ _ => by kernel_rfl⟩
instance : FnOk Try.prog 35 := ⟨fun _ _ => by kernel_rfl⟩
instance : FnOk Try.prog 36 := ⟨fun _ _ => by kernel_rfl⟩
instance : FnOk Try.prog 37 := ⟨fun _ _ => by kernel_rfl⟩
instance : FnOk Try.prog 38 := ⟨fun _ _ => by kernel_rfl⟩
instance : FnOk Try.prog 39 := ⟨fun _ _ => by kernel_rfl⟩
instance : FnOk Try.prog 40 := ⟨fun _ _ => by kernel_rfl⟩
instance : FnOk Try.prog 41 := ⟨fun _ _ => by kernel_rfl⟩
instance : FnOk Try.prog 42 := ⟨fun _ _ => by kernel_rfl⟩
instance : FnOk Try.prog 43 := ⟨fun _ _ => by kernel_rfl⟩
instance : FnOk Try.prog 44 := ⟨fun _ _ => by kernel_rfl⟩
instance : FnOk Try.prog 45 := ⟨fun _ _ => by kernel_rfl⟩
instance : FnOk Try.prog 46 := ⟨fun _ _ => by kernel_rfl⟩
instance : FnOk Try.prog 47 := ⟨fun _ _ => by kernel_rfl⟩
instance : FnOk Try.prog 48 := ⟨fun _ _ => by kernel_rfl⟩
instance : FnOk Try.prog 49 := ⟨fun _ _ => by kernel_rfl⟩
instance : FnOk Try.prog 50 := ⟨fun _ _ => by kernel_rfl⟩
instance : FnOk Try.prog 51 := ⟨fun _ _ => by kernel_rfl⟩
instance : FnOk Try.prog 52 := ⟨fun _ _ => by kernel_rfl⟩
instance : FnOk Try.prog 53 := ⟨fun _ _ => by kernel_rfl⟩
instance : FnOk Try.prog 54 := ⟨fun _ _ => by kernel_rfl⟩
instance : FnOk Try.prog 55 := ⟨fun _ _ => by kernel_rfl⟩
instance : FnOk Try.prog 56 := ⟨fun _ _ => by kernel_rfl⟩
instance : FnOk Try.prog 57 := ⟨fun _ _ => by kernel_rfl⟩
instance : FnOk Try.prog 58 := ⟨fun _ _ => by kernel_rfl⟩
instance : FnOk Try.prog 59 := ⟨fun _ _ => by kernel_rfl⟩
instance : FnOk Try.prog 60 := ⟨fun _ _ => by kernel_rfl⟩
instance : FnOk Try.prog 61 := ⟨fun _ _ => by kernel_rfl⟩
instance : FnOk Try.prog 62 := ⟨fun _ _ => by kernel_rfl⟩
instance : FnOk Try.prog 63 := ⟨fun _ _ => by kernel_rfl⟩
instance : FnOk Try.prog 64 := ⟨fun _ _ => by kernel_rfl⟩
instance : FnOk Try.prog 65 := ⟨fun _ _ => by kernel_rfl⟩
instance : FnOk Try.prog 66 := ⟨fun _ _ => by kernel_rfl⟩
instance : FnOk Try.prog 67 := ⟨fun _ _ => by kernel_rfl⟩
instance : FnOk Try.prog 68 := ⟨fun _ _ => by kernel_rfl⟩
instance : FnOk Try.prog 70 := ⟨fun _ _ => by kernel_rfl⟩
instance : FnOk Try.prog 71 := ⟨fun _ _ => by kernel_rfl⟩
instance : FnOk Try.prog 72 := ⟨fun _ _ => by kernel_rfl⟩
instance : FnOk Try.prog 73 := ⟨fun _ _ => by kernel_rfl⟩
instance : FnOk Try.prog 74 := ⟨fun _ _ => by kernel_rfl⟩
instance : FnOk Try.prog 75 := ⟨fun _ _ => by kernel_rfl⟩
instance : FnOk Try.prog 76 := ⟨fun _ _ => by kernel_rfl⟩
instance : FnOk Try.prog 77 := ⟨fun _ _ => by kernel_rfl⟩
instance : FnOk Try.prog 78 := ⟨fun _ _ => by kernel_rfl⟩
instance : FnOk Try.prog 79 := ⟨fun _ _ => by kernel_rfl⟩
instance : FnOk Try.prog 80 := ⟨fun _ _ => by kernel_rfl⟩
instance : FnOk Try.prog 81 := ⟨fun _ _ => by kernel_rfl⟩
instance : FnOk Try.prog 82 := ⟨fun _ _ => by kernel_rfl⟩
instance : FnOk Try.prog 83 := ⟨fun _ _ => by kernel_rfl⟩
instance : FnOk Try.prog 84 := ⟨fun _ _ => by kernel_rfl⟩
instance : FnOk Try.prog 85 := ⟨fun _ _ => by kernel_rfl⟩
instance : FnOk Try.prog 86 := ⟨fun _ _ => by kernel_rfl⟩
instance : FnOk Try.prog 87 := ⟨fun _ _ => by kernel_rfl⟩
instance : FnOk Try.prog 88 := ⟨fun _ _ => by kernel_rfl⟩
instance : FnOk Try.prog 89 := ⟨fun _ _ => by kernel_rfl⟩
instance : FnOk Try.prog 90 := ⟨fun _ _ => by kernel_rfl⟩
instance : FnOk Try.prog 91 := ⟨fun _ _ => by kernel_rfl⟩
instance : FnOk Try.prog 94 := ⟨fun _ _ => by kernel_rfl⟩
instance : FnOk Try.prog 95 := ⟨fun _ _ => by kernel_rfl⟩
instance : FnOk Try.prog 96 := ⟨fun _ _ => by kernel_rfl⟩
instance : FnOk Try.prog 97 := ⟨fun _ _ => by kernel_rfl⟩
instance : FnOk Try.prog 98 := ⟨fun _ _ => by kernel_rfl⟩
instance : FnOk Try.prog 99 := ⟨fun _ _ => by kernel_rfl⟩
instance : FnOk Try.prog 100 := ⟨fun _ _ => by kernel_rfl⟩
instance : FnOk Try.prog 101 := ⟨fun _ _ => by kernel_rfl⟩
instance : FnOk Try.prog 102 := ⟨fun _ _ => by kernel_rfl⟩
instance : FnOk Try.prog 103 := ⟨fun _ _ => by kernel_rfl⟩
instance : FnOk Try.prog 104 := ⟨fun _ _ => by kernel_rfl⟩
instance : FnOk Try.prog 105 := ⟨fun _ _ => by kernel_rfl⟩
instance : FnOk Try.prog 106 := ⟨fun _ _ => by kernel_rfl⟩
instance : FnOk Try.prog 107 := ⟨fun _ _ => by kernel_rfl⟩
instance : FnOk Try.prog 108 := ⟨fun _ _ => by kernel_rfl⟩
instance : FnOk Try.prog 109 := ⟨fun _ _ => by kernel_rfl⟩
instance : FnOk Try.prog 110 := ⟨fun _ _ => by kernel_rfl⟩
instance : FnOk Try.prog 111 := ⟨fun _ _ => by kernel_rfl⟩
instance : FnOk Try.prog 112 := ⟨fun _ _ => by kernel_rfl⟩
instance : FnOk Try.prog 113 := ⟨fun _ _ => by kernel_rfl⟩
instance : FnOk Try.prog 115 := ⟨fun _ _ => by kernel_rfl⟩
instance : FnOk Try.prog 116 := ⟨fun _ _ => by kernel_rfl⟩
instance : FnOk Try.prog 117 := ⟨fun _ _ => by kernel_rfl⟩
instance : FnOk Try.prog 118 := ⟨fun _ _ => by kernel_rfl⟩
instance : FnOk Try.prog 119 := ⟨fun _ _ => by kernel_rfl⟩
instance : FnOk Try.prog 120 := ⟨fun _ _ => by kernel_rfl⟩
instance : FnOk Try.prog 121 := ⟨fun _ _ => by kernel_rfl⟩
end Go.Proofs.Ytpflkichnjfgkaa
