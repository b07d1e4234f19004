/- Facts of types and functions of the given program, out of its translation's tables, each by the kernel's own reckoning. No condition. -/
import Derived.Test.YtbgfkhliideegaaGreatProg
import Derived.KernelRfl
import Derived.Test.YtbgfkhliideegaaGreatSym
namespace Go.Proofs.YtbgfkhliideegaaGreat
open Go.RowKit

instance : I64Ty Tryz.prog 2 := ⟨by kernel_rfl⟩
instance : OneTy Tryz.prog 2 := ⟨fun _ => by kernel_rfl, fun _ => by kernel_rfl⟩
instance : ElemTy Tryz.prog 2 (.int .i64 0) 1 8 := ⟨by kernel_rfl, rfl, by omega⟩
instance : I64Ty Tryz.prog 3 := ⟨by kernel_rfl⟩
instance : OneTy Tryz.prog 3 := ⟨fun _ => by kernel_rfl, fun _ => by kernel_rfl⟩
instance : ElemTy Tryz.prog 3 (.int .i64 0) 1 8 := ⟨by kernel_rfl, rfl, by omega⟩
instance : BoolTy Tryz.prog 4 := ⟨by kernel_rfl⟩
instance : OneTy Tryz.prog 4 := ⟨fun _ => by kernel_rfl, fun _ => by kernel_rfl⟩
instance : ElemTy Tryz.prog 4 (.bool false) 1 1 := ⟨by kernel_rfl, rfl, by omega⟩
instance : U8Ty Tryz.prog 5 := ⟨by kernel_rfl⟩
instance : OneTy Tryz.prog 5 := ⟨fun _ => by kernel_rfl, fun _ => by kernel_rfl⟩
instance : ElemTy Tryz.prog 5 (.int .u8 0) 1 1 := ⟨by kernel_rfl, rfl, by omega⟩
instance : OneTy Tryz.prog 12 := ⟨fun _ => by kernel_rfl, fun _ => by kernel_rfl⟩
instance : ElemTy Tryz.prog 12 (.int .u64 0) 1 8 := ⟨by kernel_rfl, rfl, by omega⟩
instance : OneTy Tryz.prog 21 := ⟨fun _ => by kernel_rfl, fun _ => by kernel_rfl⟩
instance : ElemTy Tryz.prog 21 (.int .i32 0) 1 4 := ⟨by kernel_rfl, rfl, by omega⟩
instance : SliceTy Tryz.prog 22 5 := ⟨by kernel_rfl⟩
instance : OneTy Tryz.prog 22 := ⟨fun _ => by kernel_rfl, fun _ => by kernel_rfl⟩
instance : ElemTy Tryz.prog 22 (.slice none 0 0) 1 24 := ⟨by kernel_rfl, rfl, by omega⟩
instance : SliceTy Tryz.prog 23 94 := ⟨by kernel_rfl⟩
instance : OneTy Tryz.prog 23 := ⟨fun _ => by kernel_rfl, fun _ => by kernel_rfl⟩
instance : ElemTy Tryz.prog 23 (.slice none 0 0) 1 24 := ⟨by kernel_rfl, rfl, by omega⟩
instance : SliceTy Tryz.prog 24 98 := ⟨by kernel_rfl⟩
instance : OneTy Tryz.prog 24 := ⟨fun _ => by kernel_rfl, fun _ => by kernel_rfl⟩
instance : ElemTy Tryz.prog 24 (.slice none 0 0) 1 24 := ⟨by kernel_rfl, rfl, by omega⟩
instance : SliceTy Tryz.prog 25 3 := ⟨by kernel_rfl⟩
instance : OneTy Tryz.prog 25 := ⟨fun _ => by kernel_rfl, fun _ => by kernel_rfl⟩
instance : ElemTy Tryz.prog 25 (.slice none 0 0) 1 24 := ⟨by kernel_rfl, rfl, by omega⟩
instance : SliceTy Tryz.prog 26 71 := ⟨by kernel_rfl⟩
instance : OneTy Tryz.prog 26 := ⟨fun _ => by kernel_rfl, fun _ => by kernel_rfl⟩
instance : ElemTy Tryz.prog 26 (.slice none 0 0) 1 24 := ⟨by kernel_rfl, rfl, by omega⟩
instance : SliceTy Tryz.prog 34 96 := ⟨by kernel_rfl⟩
instance : OneTy Tryz.prog 34 := ⟨fun _ => by kernel_rfl, fun _ => by kernel_rfl⟩
instance : ElemTy Tryz.prog 34 (.slice none 0 0) 1 24 := ⟨by kernel_rfl, rfl, by omega⟩
instance : SliceTy Tryz.prog 35 100 := ⟨by kernel_rfl⟩
instance : OneTy Tryz.prog 35 := ⟨fun _ => by kernel_rfl, fun _ => by kernel_rfl⟩
instance : ElemTy Tryz.prog 35 (.slice none 0 0) 1 24 := ⟨by kernel_rfl, rfl, by omega⟩
instance : SliceTy Tryz.prog 36 92 := ⟨by kernel_rfl⟩
instance : OneTy Tryz.prog 36 := ⟨fun _ => by kernel_rfl, fun _ => by kernel_rfl⟩
instance : ElemTy Tryz.prog 36 (.slice none 0 0) 1 24 := ⟨by kernel_rfl, rfl, by omega⟩
instance : SliceTy Tryz.prog 52 76 := ⟨by kernel_rfl⟩
instance : OneTy Tryz.prog 52 := ⟨fun _ => by kernel_rfl, fun _ => by kernel_rfl⟩
instance : ElemTy Tryz.prog 52 (.slice none 0 0) 1 24 := ⟨by kernel_rfl, rfl, by omega⟩
instance : AggTy Tryz.prog 53 2 := ⟨fun _ => by kernel_rfl, fun _ => by kernel_rfl⟩
instance : ElemTy Tryz.prog 53 (.agg #[.slice none 0 0, .slice none 0 0]) 2 48 := ⟨by kernel_rfl, rfl, by omega⟩
instance : FieldTy Tryz.prog 53 0 0 := ⟨fun _ _ => by kernel_rfl⟩
instance : FieldTy Tryz.prog 53 1 1 := ⟨fun _ _ => by kernel_rfl⟩
instance : BuildTy Tryz.prog 53 [(0, 1), (1, 1)] [.slice none 0 0, .slice none 0 0] := ⟨fun _ => by kernel_rfl, ⟨_, Tryz.underlying53, fun _ => by kernel_rfl⟩⟩
instance : AggTy Tryz.prog 54 2 := ⟨fun _ => by kernel_rfl, fun _ => by kernel_rfl⟩
instance : ElemTy Tryz.prog 54 (.agg #[.slice none 0 0, .slice none 0 0]) 2 48 := ⟨by kernel_rfl, rfl, by omega⟩
instance : FieldTy Tryz.prog 54 0 0 := ⟨fun _ _ => by kernel_rfl⟩
instance : FieldTy Tryz.prog 54 1 1 := ⟨fun _ _ => by kernel_rfl⟩
instance : BuildTy Tryz.prog 54 [(0, 1), (1, 1)] [.slice none 0 0, .slice none 0 0] := ⟨fun _ => by kernel_rfl, ⟨_, Tryz.underlying54, fun _ => by kernel_rfl⟩⟩
instance : AggTy Tryz.prog 60 3 := ⟨fun _ => by kernel_rfl, fun _ => by kernel_rfl⟩
instance : ElemTy Tryz.prog 60 (.agg #[.int .i64 0, .slice none 0 0, .slice none 0 0]) 3 56 := ⟨by kernel_rfl, rfl, by omega⟩
instance : FieldTy Tryz.prog 60 0 0 := ⟨fun _ _ => by kernel_rfl⟩
instance : FieldTy Tryz.prog 60 1 1 := ⟨fun _ _ => by kernel_rfl⟩
instance : FieldTy Tryz.prog 60 2 2 := ⟨fun _ _ => by kernel_rfl⟩
instance : BuildTy Tryz.prog 60 [(0, 1), (1, 1), (2, 1)] [.int .i64 0, .slice none 0 0, .slice none 0 0] := ⟨fun _ => by kernel_rfl, ⟨_, Tryz.underlying60, fun _ => by kernel_rfl⟩⟩
instance : AggTy Tryz.prog 61 3 := ⟨fun _ => by kernel_rfl, fun _ => by kernel_rfl⟩
instance : ElemTy Tryz.prog 61 (.agg #[.int .i64 0, .slice none 0 0, .slice none 0 0]) 3 56 := ⟨by kernel_rfl, rfl, by omega⟩
instance : FieldTy Tryz.prog 61 0 0 := ⟨fun _ _ => by kernel_rfl⟩
instance : FieldTy Tryz.prog 61 1 1 := ⟨fun _ _ => by kernel_rfl⟩
instance : FieldTy Tryz.prog 61 2 2 := ⟨fun _ _ => by kernel_rfl⟩
instance : BuildTy Tryz.prog 61 [(0, 1), (1, 1), (2, 1)] [.int .i64 0, .slice none 0 0, .slice none 0 0] := ⟨fun _ => by kernel_rfl, ⟨_, Tryz.underlying61, fun _ => by kernel_rfl⟩⟩
instance : AggTy Tryz.prog 65 2 := ⟨fun _ => by kernel_rfl, fun _ => by kernel_rfl⟩
instance : ElemTy Tryz.prog 65 (.agg #[.int .i64 0, .int .i64 0]) 2 16 := ⟨by kernel_rfl, rfl, by omega⟩
instance : FieldTy Tryz.prog 65 0 0 := ⟨fun _ _ => by kernel_rfl⟩
instance : FieldTy Tryz.prog 65 1 1 := ⟨fun _ _ => by kernel_rfl⟩
instance : BuildTy Tryz.prog 65 [(0, 1), (1, 1)] [.int .i64 0, .int .i64 0] := ⟨fun _ => by kernel_rfl, ⟨_, Tryz.underlying65, fun _ => by kernel_rfl⟩⟩
instance : AggTy Tryz.prog 66 2 := ⟨fun _ => by kernel_rfl, fun _ => by kernel_rfl⟩
instance : ElemTy Tryz.prog 66 (.agg #[.int .i64 0, .int .i64 0]) 2 16 := ⟨by kernel_rfl, rfl, by omega⟩
instance : FieldTy Tryz.prog 66 0 0 := ⟨fun _ _ => by kernel_rfl⟩
instance : FieldTy Tryz.prog 66 1 1 := ⟨fun _ _ => by kernel_rfl⟩
instance : BuildTy Tryz.prog 66 [(0, 1), (1, 1)] [.int .i64 0, .int .i64 0] := ⟨fun _ => by kernel_rfl, ⟨_, Tryz.underlying66, fun _ => by kernel_rfl⟩⟩
instance : SliceTy Tryz.prog 67 66 := ⟨by kernel_rfl⟩
instance : OneTy Tryz.prog 67 := ⟨fun _ => by kernel_rfl, fun _ => by kernel_rfl⟩
instance : ElemTy Tryz.prog 67 (.slice none 0 0) 1 24 := ⟨by kernel_rfl, rfl, by omega⟩
instance : AggTy Tryz.prog 68 4 := ⟨fun _ => by kernel_rfl, fun _ => by kernel_rfl⟩
instance : ElemTy Tryz.prog 68 (.agg #[.int .i64 0, .int .i64 0, .slice none 0 0, .int .i64 0]) 4 48 := ⟨by kernel_rfl, rfl, by omega⟩
instance : FieldTy Tryz.prog 68 0 0 := ⟨fun _ _ => by kernel_rfl⟩
instance : FieldTy Tryz.prog 68 1 2 := ⟨fun _ _ => by kernel_rfl⟩
instance : FieldTy Tryz.prog 68 2 3 := ⟨fun _ _ => by kernel_rfl⟩
instance : BuildTy Tryz.prog 68 [(0, 2), (2, 1), (3, 1)] [.int .i64 0, .int .i64 0, .slice none 0 0, .int .i64 0] := ⟨fun _ => by kernel_rfl, ⟨_, Tryz.underlying68, fun _ => by kernel_rfl⟩⟩
instance : AggTy Tryz.prog 69 4 := ⟨fun _ => by kernel_rfl, fun _ => by kernel_rfl⟩
instance : ElemTy Tryz.prog 69 (.agg #[.int .i64 0, .int .i64 0, .slice none 0 0, .int .i64 0]) 4 48 := ⟨by kernel_rfl, rfl, by omega⟩
instance : FieldTy Tryz.prog 69 0 0 := ⟨fun _ _ => by kernel_rfl⟩
instance : FieldTy Tryz.prog 69 1 2 := ⟨fun _ _ => by kernel_rfl⟩
instance : FieldTy Tryz.prog 69 2 3 := ⟨fun _ _ => by kernel_rfl⟩
instance : BuildTy Tryz.prog 69 [(0, 2), (2, 1), (3, 1)] [.int .i64 0, .int .i64 0, .slice none 0 0, .int .i64 0] := ⟨fun _ => by kernel_rfl, ⟨_, Tryz.underlying69, fun _ => by kernel_rfl⟩⟩
instance : AggTy Tryz.prog 70 11 := ⟨fun _ => by kernel_rfl, fun _ => by kernel_rfl⟩
instance : ElemTy Tryz.prog 70 (.agg #[.int .i64 0, .int .i64 0, .int .i64 0, .int .i64 0, .int .i64 0, .int .i64 0, .int .i64 0, .int .i64 0, .int .i64 0, .slice none 0 0, .int .i64 0]) 11 104 := ⟨by kernel_rfl, rfl, by omega⟩
instance : FieldTy Tryz.prog 70 0 0 := ⟨fun _ _ => by kernel_rfl⟩
instance : FieldTy Tryz.prog 70 1 1 := ⟨fun _ _ => by kernel_rfl⟩
instance : FieldTy Tryz.prog 70 2 2 := ⟨fun _ _ => by kernel_rfl⟩
instance : FieldTy Tryz.prog 70 3 3 := ⟨fun _ _ => by kernel_rfl⟩
instance : FieldTy Tryz.prog 70 4 4 := ⟨fun _ _ => by kernel_rfl⟩
instance : FieldTy Tryz.prog 70 5 5 := ⟨fun _ _ => by kernel_rfl⟩
instance : FieldTy Tryz.prog 70 6 6 := ⟨fun _ _ => by kernel_rfl⟩
instance : FieldTy Tryz.prog 70 7 7 := ⟨fun _ _ => by kernel_rfl⟩
instance : BuildTy Tryz.prog 70 [(0, 1), (1, 1), (2, 1), (3, 1), (4, 1), (5, 1), (6, 1), (7, 4)] [.int .i64 0, .int .i64 0, .int .i64 0, .int .i64 0, .int .i64 0, .int .i64 0, .int .i64 0, .int .i64 0, .int .i64 0, .slice none 0 0, .int .i64 0] := ⟨fun _ => by kernel_rfl, ⟨_, Tryz.underlying70, fun _ => by kernel_rfl⟩⟩
instance : AggTy Tryz.prog 71 11 := ⟨fun _ => by kernel_rfl, fun _ => by kernel_rfl⟩
instance : ElemTy Tryz.prog 71 (.agg #[.int .i64 0, .int .i64 0, .int .i64 0, .int .i64 0, .int .i64 0, .int .i64 0, .int .i64 0, .int .i64 0, .int .i64 0, .slice none 0 0, .int .i64 0]) 11 104 := ⟨by kernel_rfl, rfl, by omega⟩
instance : FieldTy Tryz.prog 71 0 0 := ⟨fun _ _ => by kernel_rfl⟩
instance : FieldTy Tryz.prog 71 1 1 := ⟨fun _ _ => by kernel_rfl⟩
instance : FieldTy Tryz.prog 71 2 2 := ⟨fun _ _ => by kernel_rfl⟩
instance : FieldTy Tryz.prog 71 3 3 := ⟨fun _ _ => by kernel_rfl⟩
instance : FieldTy Tryz.prog 71 4 4 := ⟨fun _ _ => by kernel_rfl⟩
instance : FieldTy Tryz.prog 71 5 5 := ⟨fun _ _ => by kernel_rfl⟩
instance : FieldTy Tryz.prog 71 6 6 := ⟨fun _ _ => by kernel_rfl⟩
instance : FieldTy Tryz.prog 71 7 7 := ⟨fun _ _ => by kernel_rfl⟩
instance : BuildTy Tryz.prog 71 [(0, 1), (1, 1), (2, 1), (3, 1), (4, 1), (5, 1), (6, 1), (7, 4)] [.int .i64 0, .int .i64 0, .int .i64 0, .int .i64 0, .int .i64 0, .int .i64 0, .int .i64 0, .int .i64 0, .int .i64 0, .slice none 0 0, .int .i64 0] := ⟨fun _ => by kernel_rfl, ⟨_, Tryz.underlying71, fun _ => by kernel_rfl⟩⟩
instance : AggTy Tryz.prog 75 3 := ⟨fun _ => by kernel_rfl, fun _ => by kernel_rfl⟩
instance : ElemTy Tryz.prog 75 (.agg #[.int .i64 0, .int .i64 0, .int .i64 0]) 3 24 := ⟨by kernel_rfl, rfl, by omega⟩
instance : FieldTy Tryz.prog 75 0 0 := ⟨fun _ _ => by kernel_rfl⟩
instance : FieldTy Tryz.prog 75 1 1 := ⟨fun _ _ => by kernel_rfl⟩
instance : FieldTy Tryz.prog 75 2 2 := ⟨fun _ _ => by kernel_rfl⟩
instance : BuildTy Tryz.prog 75 [(0, 1), (1, 1), (2, 1)] [.int .i64 0, .int .i64 0, .int .i64 0] := ⟨fun _ => by kernel_rfl, ⟨_, Tryz.underlying75, fun _ => by kernel_rfl⟩⟩
instance : AggTy Tryz.prog 76 3 := ⟨fun _ => by kernel_rfl, fun _ => by kernel_rfl⟩
instance : ElemTy Tryz.prog 76 (.agg #[.int .i64 0, .int .i64 0, .int .i64 0]) 3 24 := ⟨by kernel_rfl, rfl, by omega⟩
instance : FieldTy Tryz.prog 76 0 0 := ⟨fun _ _ => by kernel_rfl⟩
instance : FieldTy Tryz.prog 76 1 1 := ⟨fun _ _ => by kernel_rfl⟩
instance : FieldTy Tryz.prog 76 2 2 := ⟨fun _ _ => by kernel_rfl⟩
instance : BuildTy Tryz.prog 76 [(0, 1), (1, 1), (2, 1)] [.int .i64 0, .int .i64 0, .int .i64 0] := ⟨fun _ => by kernel_rfl, ⟨_, Tryz.underlying76, fun _ => by kernel_rfl⟩⟩
instance : OneTy Tryz.prog 82 := ⟨fun _ => by kernel_rfl, fun _ => by kernel_rfl⟩
instance : ElemTy Tryz.prog 82 (.pointer none) 1 8 := ⟨by kernel_rfl, rfl, by omega⟩
instance : AggTy Tryz.prog 87 2 := ⟨fun _ => by kernel_rfl, fun _ => by kernel_rfl⟩
instance : ElemTy Tryz.prog 87 (.agg #[.int .i64 0, .int .i64 0]) 2 16 := ⟨by kernel_rfl, rfl, by omega⟩
instance : FieldTy Tryz.prog 87 0 0 := ⟨fun _ _ => by kernel_rfl⟩
instance : FieldTy Tryz.prog 87 1 1 := ⟨fun _ _ => by kernel_rfl⟩
instance : BuildTy Tryz.prog 87 [(0, 1), (1, 1)] [.int .i64 0, .int .i64 0] := ⟨fun _ => by kernel_rfl, ⟨_, Tryz.underlying87, fun _ => by kernel_rfl⟩⟩
instance : SliceTy Tryz.prog 88 87 := ⟨by kernel_rfl⟩
instance : OneTy Tryz.prog 88 := ⟨fun _ => by kernel_rfl, fun _ => by kernel_rfl⟩
instance : ElemTy Tryz.prog 88 (.slice none 0 0) 1 24 := ⟨by kernel_rfl, rfl, by omega⟩
instance : AggTy Tryz.prog 89 4 := ⟨fun _ => by kernel_rfl, fun _ => by kernel_rfl⟩
instance : ElemTy Tryz.prog 89 (.agg #[.int .i64 0, .int .i64 0, .slice none 0 0, .int .i64 0]) 4 48 := ⟨by kernel_rfl, rfl, by omega⟩
instance : FieldTy Tryz.prog 89 0 0 := ⟨fun _ _ => by kernel_rfl⟩
instance : FieldTy Tryz.prog 89 1 2 := ⟨fun _ _ => by kernel_rfl⟩
instance : FieldTy Tryz.prog 89 2 3 := ⟨fun _ _ => by kernel_rfl⟩
instance : BuildTy Tryz.prog 89 [(0, 2), (2, 1), (3, 1)] [.int .i64 0, .int .i64 0, .slice none 0 0, .int .i64 0] := ⟨fun _ => by kernel_rfl, ⟨_, Tryz.underlying89, fun _ => by kernel_rfl⟩⟩
instance : AggTy Tryz.prog 90 4 := ⟨fun _ => by kernel_rfl, fun _ => by kernel_rfl⟩
instance : ElemTy Tryz.prog 90 (.agg #[.int .i64 0, .int .i64 0, .slice none 0 0, .int .i64 0]) 4 48 := ⟨by kernel_rfl, rfl, by omega⟩
instance : FieldTy Tryz.prog 90 0 0 := ⟨fun _ _ => by kernel_rfl⟩
instance : FieldTy Tryz.prog 90 1 2 := ⟨fun _ _ => by kernel_rfl⟩
instance : FieldTy Tryz.prog 90 2 3 := ⟨fun _ _ => by kernel_rfl⟩
instance : BuildTy Tryz.prog 90 [(0, 2), (2, 1), (3, 1)] [.int .i64 0, .int .i64 0, .slice none 0 0, .int .i64 0] := ⟨fun _ => by kernel_rfl, ⟨_, Tryz.underlying90, fun _ => by kernel_rfl⟩⟩
instance : AggTy Tryz.prog 91 11 := ⟨fun _ => by kernel_rfl, fun _ => by kernel_rfl⟩
instance : ElemTy Tryz.prog 91 (.agg #[.int .i64 0, .int .i64 0, .int .i64 0, .int .i64 0, .int .i64 0, .int .i64 0, .int .i64 0, .int .i64 0, .int .i64 0, .slice none 0 0, .int .i64 0]) 11 104 := ⟨by kernel_rfl, rfl, by omega⟩
instance : FieldTy Tryz.prog 91 0 0 := ⟨fun _ _ => by kernel_rfl⟩
instance : FieldTy Tryz.prog 91 1 1 := ⟨fun _ _ => by kernel_rfl⟩
instance : FieldTy Tryz.prog 91 2 2 := ⟨fun _ _ => by kernel_rfl⟩
instance : FieldTy Tryz.prog 91 3 3 := ⟨fun _ _ => by kernel_rfl⟩
instance : FieldTy Tryz.prog 91 4 4 := ⟨fun _ _ => by kernel_rfl⟩
instance : FieldTy Tryz.prog 91 5 5 := ⟨fun _ _ => by kernel_rfl⟩
instance : FieldTy Tryz.prog 91 6 6 := ⟨fun _ _ => by kernel_rfl⟩
instance : FieldTy Tryz.prog 91 7 7 := ⟨fun _ _ => by kernel_rfl⟩
instance : BuildTy Tryz.prog 91 [(0, 1), (1, 1), (2, 1), (3, 1), (4, 1), (5, 1), (6, 1), (7, 4)] [.int .i64 0, .int .i64 0, .int .i64 0, .int .i64 0, .int .i64 0, .int .i64 0, .int .i64 0, .int .i64 0, .int .i64 0, .slice none 0 0, .int .i64 0] := ⟨fun _ => by kernel_rfl, ⟨_, Tryz.underlying91, fun _ => by kernel_rfl⟩⟩
instance : AggTy Tryz.prog 92 11 := ⟨fun _ => by kernel_rfl, fun _ => by kernel_rfl⟩
instance : ElemTy Tryz.prog 92 (.agg #[.int .i64 0, .int .i64 0, .int .i64 0, .int .i64 0, .int .i64 0, .int .i64 0, .int .i64 0, .int .i64 0, .int .i64 0, .slice none 0 0, .int .i64 0]) 11 104 := ⟨by kernel_rfl, rfl, by omega⟩
instance : FieldTy Tryz.prog 92 0 0 := ⟨fun _ _ => by kernel_rfl⟩
instance : FieldTy Tryz.prog 92 1 1 := ⟨fun _ _ => by kernel_rfl⟩
instance : FieldTy Tryz.prog 92 2 2 := ⟨fun _ _ => by kernel_rfl⟩
instance : FieldTy Tryz.prog 92 3 3 := ⟨fun _ _ => by kernel_rfl⟩
instance : FieldTy Tryz.prog 92 4 4 := ⟨fun _ _ => by kernel_rfl⟩
instance : FieldTy Tryz.prog 92 5 5 := ⟨fun _ _ => by kernel_rfl⟩
instance : FieldTy Tryz.prog 92 6 6 := ⟨fun _ _ => by kernel_rfl⟩
instance : FieldTy Tryz.prog 92 7 7 := ⟨fun _ _ => by kernel_rfl⟩
instance : BuildTy Tryz.prog 92 [(0, 1), (1, 1), (2, 1), (3, 1), (4, 1), (5, 1), (6, 1), (7, 4)] [.int .i64 0, .int .i64 0, .int .i64 0, .int .i64 0, .int .i64 0, .int .i64 0, .int .i64 0, .int .i64 0, .int .i64 0, .slice none 0 0, .int .i64 0] := ⟨fun _ => by kernel_rfl, ⟨_, Tryz.underlying92, fun _ => by kernel_rfl⟩⟩
instance : AggTy Tryz.prog 93 4 := ⟨fun _ => by kernel_rfl, fun _ => by kernel_rfl⟩
instance : ElemTy Tryz.prog 93 (.agg #[.int .i64 0, .int .i64 0, .int .i64 0, .int .i64 0]) 4 32 := ⟨by kernel_rfl, rfl, by omega⟩
instance : FieldTy Tryz.prog 93 0 0 := ⟨fun _ _ => by kernel_rfl⟩
instance : FieldTy Tryz.prog 93 1 1 := ⟨fun _ _ => by kernel_rfl⟩
instance : FieldTy Tryz.prog 93 2 2 := ⟨fun _ _ => by kernel_rfl⟩
instance : FieldTy Tryz.prog 93 3 3 := ⟨fun _ _ => by kernel_rfl⟩
instance : BuildTy Tryz.prog 93 [(0, 1), (1, 1), (2, 1), (3, 1)] [.int .i64 0, .int .i64 0, .int .i64 0, .int .i64 0] := ⟨fun _ => by kernel_rfl, ⟨_, Tryz.underlying93, fun _ => by kernel_rfl⟩⟩
instance : AggTy Tryz.prog 94 4 := ⟨fun _ => by kernel_rfl, fun _ => by kernel_rfl⟩
instance : ElemTy Tryz.prog 94 (.agg #[.int .i64 0, .int .i64 0, .int .i64 0, .int .i64 0]) 4 32 := ⟨by kernel_rfl, rfl, by omega⟩
instance : FieldTy Tryz.prog 94 0 0 := ⟨fun _ _ => by kernel_rfl⟩
instance : FieldTy Tryz.prog 94 1 1 := ⟨fun _ _ => by kernel_rfl⟩
instance : FieldTy Tryz.prog 94 2 2 := ⟨fun _ _ => by kernel_rfl⟩
instance : FieldTy Tryz.prog 94 3 3 := ⟨fun _ _ => by kernel_rfl⟩
instance : BuildTy Tryz.prog 94 [(0, 1), (1, 1), (2, 1), (3, 1)] [.int .i64 0, .int .i64 0, .int .i64 0, .int .i64 0] := ⟨fun _ => by kernel_rfl, ⟨_, Tryz.underlying94, fun _ => by kernel_rfl⟩⟩
instance : AggTy Tryz.prog 96 4 := ⟨fun _ => by kernel_rfl, fun _ => by kernel_rfl⟩
instance : ElemTy Tryz.prog 96 (.agg #[.int .i64 0, .int .i64 0, .int .i64 0, .int .i64 0]) 4 32 := ⟨by kernel_rfl, rfl, by omega⟩
instance : FieldTy Tryz.prog 96 0 0 := ⟨fun _ _ => by kernel_rfl⟩
instance : FieldTy Tryz.prog 96 1 1 := ⟨fun _ _ => by kernel_rfl⟩
instance : FieldTy Tryz.prog 96 2 2 := ⟨fun _ _ => by kernel_rfl⟩
instance : FieldTy Tryz.prog 96 3 3 := ⟨fun _ _ => by kernel_rfl⟩
instance : BuildTy Tryz.prog 96 [(0, 1), (1, 1), (2, 1), (3, 1)] [.int .i64 0, .int .i64 0, .int .i64 0, .int .i64 0] := ⟨fun _ => by kernel_rfl, ⟨_, Tryz.underlying96, fun _ => by kernel_rfl⟩⟩
instance : AggTy Tryz.prog 97 2 := ⟨fun _ => by kernel_rfl, fun _ => by kernel_rfl⟩
instance : ElemTy Tryz.prog 97 (.agg #[.int .i64 0, .int .i64 0]) 2 16 := ⟨by kernel_rfl, rfl, by omega⟩
instance : FieldTy Tryz.prog 97 0 0 := ⟨fun _ _ => by kernel_rfl⟩
instance : FieldTy Tryz.prog 97 1 1 := ⟨fun _ _ => by kernel_rfl⟩
instance : BuildTy Tryz.prog 97 [(0, 1), (1, 1)] [.int .i64 0, .int .i64 0] := ⟨fun _ => by kernel_rfl, ⟨_, Tryz.underlying97, fun _ => by kernel_rfl⟩⟩
instance : AggTy Tryz.prog 98 2 := ⟨fun _ => by kernel_rfl, fun _ => by kernel_rfl⟩
instance : ElemTy Tryz.prog 98 (.agg #[.int .i64 0, .int .i64 0]) 2 16 := ⟨by kernel_rfl, rfl, by omega⟩
instance : FieldTy Tryz.prog 98 0 0 := ⟨fun _ _ => by kernel_rfl⟩
instance : FieldTy Tryz.prog 98 1 1 := ⟨fun _ _ => by kernel_rfl⟩
instance : BuildTy Tryz.prog 98 [(0, 1), (1, 1)] [.int .i64 0, .int .i64 0] := ⟨fun _ => by kernel_rfl, ⟨_, Tryz.underlying98, fun _ => by kernel_rfl⟩⟩
instance : AggTy Tryz.prog 100 2 := ⟨fun _ => by kernel_rfl, fun _ => by kernel_rfl⟩
instance : ElemTy Tryz.prog 100 (.agg #[.int .i64 0, .int .i64 0]) 2 16 := ⟨by kernel_rfl, rfl, by omega⟩
instance : FieldTy Tryz.prog 100 0 0 := ⟨fun _ _ => by kernel_rfl⟩
instance : FieldTy Tryz.prog 100 1 1 := ⟨fun _ _ => by kernel_rfl⟩
instance : BuildTy Tryz.prog 100 [(0, 1), (1, 1)] [.int .i64 0, .int .i64 0] := ⟨fun _ => by kernel_rfl, ⟨_, Tryz.underlying100, fun _ => by kernel_rfl⟩⟩
instance : AggTy Tryz.prog 120 2 := ⟨fun _ => by kernel_rfl, fun _ => by kernel_rfl⟩
instance : ElemTy Tryz.prog 120 (.agg #[.slice none 0 0, .int .i64 0]) 2 32 := ⟨by kernel_rfl, rfl, by omega⟩
instance : FieldTy Tryz.prog 120 0 0 := ⟨fun _ _ => by kernel_rfl⟩
instance : FieldTy Tryz.prog 120 1 1 := ⟨fun _ _ => by kernel_rfl⟩
instance : BuildTy Tryz.prog 120 [(0, 1), (1, 1)] [.slice none 0 0, .int .i64 0] := ⟨fun _ => by kernel_rfl, ⟨_, Tryz.underlying120, fun _ => by kernel_rfl⟩⟩
instance : AggTy Tryz.prog 121 2 := ⟨fun _ => by kernel_rfl, fun _ => by kernel_rfl⟩
instance : ElemTy Tryz.prog 121 (.agg #[.slice none 0 0, .int .i64 0]) 2 32 := ⟨by kernel_rfl, rfl, by omega⟩
instance : FieldTy Tryz.prog 121 0 0 := ⟨fun _ _ => by kernel_rfl⟩
instance : FieldTy Tryz.prog 121 1 1 := ⟨fun _ _ => by kernel_rfl⟩
instance : BuildTy Tryz.prog 121 [(0, 1), (1, 1)] [.slice none 0 0, .int .i64 0] := ⟨fun _ => by kernel_rfl, ⟨_, Tryz.underlying121, fun _ => by kernel_rfl⟩⟩
instance : SliceTy Tryz.prog 135 25 := ⟨by kernel_rfl⟩
instance : OneTy Tryz.prog 135 := ⟨fun _ => by kernel_rfl, fun _ => by kernel_rfl⟩
instance : ElemTy Tryz.prog 135 (.slice none 0 0) 1 24 := ⟨by kernel_rfl, rfl, by omega⟩
instance : OneTy Tryz.prog 159 := ⟨fun _ => by kernel_rfl, fun _ => by kernel_rfl⟩
instance : ElemTy Tryz.prog 159 (.int .u64 0) 1 8 := ⟨by kernel_rfl, rfl, by omega⟩
instance : OneTy Tryz.prog 174 := ⟨fun _ => by kernel_rfl, fun _ => by kernel_rfl⟩
instance : ElemTy Tryz.prog 174 (.int .u32 0) 1 4 := ⟨by kernel_rfl, rfl, by omega⟩
instance : OneTy Tryz.prog 176 := ⟨fun _ => by kernel_rfl, fun _ => by kernel_rfl⟩
instance : ElemTy Tryz.prog 176 (.int .u64 0) 1 8 := ⟨by kernel_rfl, rfl, by omega⟩
instance : OneTy Tryz.prog 188 := ⟨fun _ => by kernel_rfl, fun _ => by kernel_rfl⟩
instance : ElemTy Tryz.prog 188 (.pointer none) 1 8 := ⟨by kernel_rfl, rfl, by omega⟩
instance : OneTy Tryz.prog 206 := ⟨fun _ => by kernel_rfl, fun _ => by kernel_rfl⟩
instance : ElemTy Tryz.prog 206 (.pointer none) 1 8 := ⟨by kernel_rfl, rfl, by omega⟩
instance : FnOk Tryz.prog 3 := ⟨fun _ _ => by kernel_rfl⟩
instance : FnOk Tryz.prog 4 := ⟨fun _ _ => by kernel_rfl⟩
instance : FnOk Tryz.prog 5 := ⟨fun _ _ => by kernel_rfl⟩
instance : FnOk Tryz.prog 6 := ⟨fun _ _ => by kernel_rfl⟩
instance : FnOk Tryz.prog 7 := ⟨fun _ _ => by kernel_rfl⟩
instance : FnOk Tryz.prog 8 := ⟨fun _ _ => by kernel_rfl⟩
instance : FnOk Tryz.prog 9 := ⟨fun _ _ => by kernel_rfl⟩
instance : FnOk Tryz.prog 10 := ⟨fun _ _ => by kernel_rfl⟩
instance : FnOk Tryz.prog 11 := ⟨fun _ _ => by kernel_rfl⟩
instance : FnOk Tryz.prog 12 := ⟨fun _ _ => by kernel_rfl⟩
instance : FnOk Tryz.prog 13 := ⟨fun _ _ => by kernel_rfl⟩
instance : FnOk Tryz.prog 14 := ⟨fun _ _ => by kernel_rfl⟩
instance : FnOk Tryz.prog 15 := ⟨fun _ _ => by kernel_rfl⟩
instance : FnOk Tryz.prog 16 := ⟨fun _ _ => by kernel_rfl⟩
instance : FnOk Tryz.prog 17 := ⟨fun _ _ => by kernel_rfl⟩
instance : FnOk Tryz.prog 18 := ⟨fun _ _ => by kernel_rfl⟩
instance : FnOk Tryz.prog 19 := ⟨fun _ _ => by kernel_rfl⟩
instance : FnOk Tryz.prog 20 := ⟨fun _ _ => by kernel_rfl⟩
instance : FnOk Tryz.prog 21 := ⟨fun _ _ => by kernel_rfl⟩
instance : FnOk Tryz.prog 22 := ⟨fun _ _ => by kernel_rfl⟩
instance : FnOk Tryz.prog 23 := ⟨fun _ _ => by kernel_rfl⟩
instance : FnOk Tryz.prog 24 := ⟨fun _ _ => by kernel_rfl⟩
instance : FnOk Tryz.prog 25 := ⟨fun _ _ => by kernel_rfl⟩
instance : FnOk Tryz.prog 26 := ⟨fun _ _ => by kernel_rfl⟩
instance : FnOk Tryz.prog 27 := ⟨fun _ _ => by kernel_rfl⟩
instance : FnOk Tryz.prog 28 := ⟨fun _ _ => by kernel_rfl⟩
instance : FnOk Tryz.prog 29 := ⟨fun _ _ => by kernel_rfl⟩
instance : FnOk Tryz.prog 30 := ⟨fun _ _ => by kernel_rfl⟩
instance : FnOk Tryz.prog 31 := ⟨fun _ _ => by kernel_rfl⟩
instance : FnOk Tryz.prog 32 := ⟨fun _ _ => by kernel_rfl⟩
instance : FnOk Tryz.prog 33 := ⟨fun _ _ => by kernel_rfl⟩
instance : FnOk Tryz.prog 34 := ⟨fun _ _ => by kernel_rfl⟩
instance : FnOk Tryz.prog 35 := ⟨fun _ _ => by kernel_rfl⟩
instance : FnOk Tryz.prog 36 := ⟨fun _ _ => by kernel_rfl⟩
instance : FnOk Tryz.prog 37 := ⟨fun _ _ => by kernel_rfl⟩
instance : FnOk Tryz.prog 38 := ⟨fun _ _ => by kernel_rfl⟩
instance : FnOk Tryz.prog 39 := ⟨fun _ _ => by kernel_rfl⟩
instance : FnOk Tryz.prog 40 := ⟨fun _ _ => by kernel_rfl⟩
instance : FnOk Tryz.prog 41 := ⟨fun _ _ => by kernel_rfl⟩
instance : FnOk Tryz.prog 42 := ⟨fun _ _ => by kernel_rfl⟩
instance : FnOk Tryz.prog 43 := ⟨fun _ _ => by kernel_rfl⟩
instance : FnOk Tryz.prog 44 := ⟨fun _ _ => by kernel_rfl⟩
instance : FnOk Tryz.prog 45 := ⟨fun _ _ => by kernel_rfl⟩
instance : FnOk Tryz.prog 46 := ⟨fun _ _ => by kernel_rfl⟩
instance : FnOk Tryz.prog 47 := ⟨fun _ _ => by kernel_rfl⟩
instance : FnOk Tryz.prog 48 := ⟨fun _ _ => by kernel_rfl⟩
instance : FnOk Tryz.prog 49 := ⟨fun _ _ => by kernel_rfl⟩
instance : FnOk Tryz.prog 50 := ⟨fun _ _ => by kernel_rfl⟩
instance : FnOk Tryz.prog 51 := ⟨fun _ _ => by kernel_rfl⟩
instance : FnOk Tryz.prog 52 := ⟨fun _ _ => by kernel_rfl⟩
instance : FnOk Tryz.prog 53 := ⟨fun _ _ => by kernel_rfl⟩
instance : FnOk Tryz.prog 54 := ⟨fun _ _ => by kernel_rfl⟩
instance : FnOk Tryz.prog 55 := ⟨fun _ _ => by kernel_rfl⟩
instance : FnOk Tryz.prog 56 := ⟨fun _ _ => by kernel_rfl⟩
instance : FnOk Tryz.prog 57 := ⟨fun _ _ => by kernel_rfl⟩
instance : FnOk Tryz.prog 58 := ⟨fun _ _ => by kernel_rfl⟩
instance : FnOk Tryz.prog 59 := ⟨fun _ _ => by kernel_rfl⟩
instance : FnOk Tryz.prog 60 := ⟨fun _ _ => by kernel_rfl⟩
instance : FnOk Tryz.prog 61 := ⟨fun _ _ => by kernel_rfl⟩
instance : FnOk Tryz.prog 62 := ⟨fun _ _ => by kernel_rfl⟩
instance : FnOk Tryz.prog 63 := ⟨fun _ _ => by kernel_rfl⟩
instance : FnOk Tryz.prog 64 := ⟨fun _ _ => by kernel_rfl⟩
instance : FnOk Tryz.prog 65 := ⟨fun _ _ => by kernel_rfl⟩
instance : FnOk Tryz.prog 66 := ⟨fun _ _ => by kernel_rfl⟩
instance : FnOk Tryz.prog 67 := ⟨fun _ _ => by kernel_rfl⟩
instance : FnOk Tryz.prog 68 := ⟨fun _ _ => by kernel_rfl⟩
instance : FnOk Tryz.prog 69 := ⟨fun _ _ => by kernel_rfl⟩
instance : FnOk Tryz.prog 70 := ⟨fun _ _ => by kernel_rfl⟩
instance : FnOk Tryz.prog 71 := ⟨fun _ _ => by kernel_rfl⟩
instance : FnOk Tryz.prog 72 := ⟨fun _ _ => by kernel_rfl⟩
instance : FnOk Tryz.prog 73 := ⟨fun _ _ => by kernel_rfl⟩
instance : FnOk Tryz.prog 74 := ⟨fun _ _ => by kernel_rfl⟩
instance : FnOk Tryz.prog 75 := ⟨fun _ _ => by kernel_rfl⟩
instance : FnOk Tryz.prog 76 := ⟨fun _ _ => by kernel_rfl⟩
instance : FnOk Tryz.prog 77 := ⟨fun _ _ => by kernel_rfl⟩
instance : FnOk Tryz.prog 78 := ⟨fun _ _ => by kernel_rfl⟩
instance : FnOk Tryz.prog 79 := ⟨fun _ _ => by kernel_rfl⟩
instance : FnOk Tryz.prog 80 := ⟨fun _ _ => by kernel_rfl⟩
instance : FnOk Tryz.prog 81 := ⟨fun _ _ => by kernel_rfl⟩
instance : FnOk Tryz.prog 82 := ⟨fun _ _ => by kernel_rfl⟩
instance : FnOk Tryz.prog 83 := ⟨fun _ _ => by kernel_rfl⟩
instance : FnOk Tryz.prog 84 := ⟨fun _ _ => by kernel_rfl⟩
instance : FnOk Tryz.prog 85 := ⟨fun _ _ => by kernel_rfl⟩
instance : FnOk Tryz.prog 86 := ⟨fun _ _ => by kernel_rfl⟩
instance : FnOk Tryz.prog 87 := ⟨fun _ _ => by kernel_rfl⟩
instance : FnOk Tryz.prog 88 := ⟨fun _ _ => by kernel_rfl⟩
instance : FnOk Tryz.prog 89 := ⟨fun _ _ => by kernel_rfl⟩
instance : FnOk Tryz.prog 90 := ⟨fun _ _ => by kernel_rfl⟩
instance : FnOk Tryz.prog 91 := ⟨fun _ _ => by kernel_rfl⟩
instance : FnOk Tryz.prog 92 := ⟨fun _ _ => by kernel_rfl⟩
instance : FnOk Tryz.prog 93 := ⟨fun _ _ => by kernel_rfl⟩
instance : FnOk Tryz.prog 94 := ⟨fun _ _ => by kernel_rfl⟩
instance : FnOk Tryz.prog 95 := ⟨fun _ _ => by kernel_rfl⟩
instance : FnOk Tryz.prog 96 := ⟨fun _ _ => by kernel_rfl⟩
instance : FnOk Tryz.prog 97 := ⟨fun _ _ => by kernel_rfl⟩
instance : FnOk Tryz.prog 98 := ⟨fun _ _ => by kernel_rfl⟩
instance : FnOk Tryz.prog 99 := ⟨fun _ _ => by kernel_rfl⟩
instance : FnOk Tryz.prog 100 := ⟨fun _ _ => by kernel_rfl⟩
instance : FnOk Tryz.prog 101 := ⟨fun _ _ => by kernel_rfl⟩
instance : FnOk Tryz.prog 102 := ⟨fun _ _ => by kernel_rfl⟩
instance : FnOk Tryz.prog 103 := ⟨fun _ _ => by kernel_rfl⟩
instance : FnOk Tryz.prog 104 := ⟨fun _ _ => by kernel_rfl⟩
instance : FnOk Tryz.prog 105 := ⟨fun _ _ => by kernel_rfl⟩
instance : FnOk Tryz.prog 106 := ⟨fun _ _ => by kernel_rfl⟩
instance : FnOk Tryz.prog 107 := ⟨fun _ _ => by kernel_rfl⟩
instance : FnOk Tryz.prog 108 := ⟨fun _ _ => by kernel_rfl⟩
instance : FnOk Tryz.prog 109 := ⟨fun _ _ => by kernel_rfl⟩
instance : FnOk Tryz.prog 110 := ⟨fun _ _ => by kernel_rfl⟩
instance : FnOk Tryz.prog 111 := ⟨fun _ _ => by kernel_rfl⟩
instance : FnOk Tryz.prog 112 := ⟨fun _ _ => by kernel_rfl⟩
instance : FnOk Tryz.prog 113 := ⟨fun _ _ => by kernel_rfl⟩
instance : FnOk Tryz.prog 114 := ⟨fun _ _ => by kernel_rfl⟩
instance : FnOk Tryz.prog 115 := ⟨fun _ _ => by kernel_rfl⟩
instance : FnOk Tryz.prog 116 := ⟨fun _ _ => by kernel_rfl⟩
instance : FnOk Tryz.prog 117 := ⟨fun _ _ => by kernel_rfl⟩
instance : FnOk Tryz.prog 118 := ⟨fun _ _ => by kernel_rfl⟩
instance : FnOk Tryz.prog 119 := ⟨fun _ _ => by kernel_rfl⟩
instance : FnOk Tryz.prog 120 := ⟨fun _ _ => by kernel_rfl⟩
instance : FnOk Tryz.prog 121 := ⟨fun _ _ => by kernel_rfl⟩
instance : FnOk Tryz.prog 122 := ⟨fun _ _ => by kernel_rfl⟩
instance : FnOk Tryz.prog 123 := ⟨fun _ _ => by kernel_rfl⟩
instance : FnOk Tryz.prog 124 := ⟨fun _ _ => by kernel_rfl⟩
instance : FnOk Tryz.prog 125 := ⟨fun _ _ => by kernel_rfl⟩
instance : FnOk Tryz.prog 126 := ⟨fun _ _ => by kernel_rfl⟩
instance : FnOk Tryz.prog 127 := ⟨fun _ _ => by kernel_rfl⟩
instance : FnOk Tryz.prog 128 := ⟨fun _ _ => by kernel_rfl⟩
instance : FnOk Tryz.prog 129 := ⟨fun _ _ => by kernel_rfl⟩
instance : FnOk Tryz.prog 130 := ⟨fun _ _ => by kernel_rfl⟩
instance : FnOk Tryz.prog 131 := ⟨fun _ _ => by kernel_rfl⟩
instance : FnOk Tryz.prog 132 := ⟨fun _ _ => by kernel_rfl⟩
instance : FnOk Tryz.prog 133 := ⟨fun _ _ => by kernel_rfl⟩
instance : FnOk Tryz.prog 134 := ⟨fun _ _ => by kernel_rfl⟩
instance : FnOk Tryz.prog 135 := ⟨fun _ _ => by kernel_rfl⟩
instance : FnOk Tryz.prog 136 := ⟨fun _ _ => by kernel_rfl⟩
instance : FnOk Tryz.prog 137 := ⟨fun _ _ => by kernel_rfl⟩
instance : FnOk Tryz.prog 138 := ⟨fun _ _ => by kernel_rfl⟩
instance : FnOk Tryz.prog 139 := ⟨fun _ _ => by kernel_rfl⟩
instance : FnOk Tryz.prog 140 := ⟨fun _ _ => by kernel_rfl⟩
instance : FnOk Tryz.prog 141 := ⟨fun _ _ => by kernel_rfl⟩
instance : FnOk Tryz.prog 142 := ⟨fun _ _ => by kernel_rfl⟩
instance : FnOk Tryz.prog 143 := ⟨fun _ _ => by kernel_rfl⟩
instance : FnOk Tryz.prog 144 := ⟨fun _ _ => by kernel_rfl⟩
instance : FnOk Tryz.prog 145 := ⟨fun _ _ => by kernel_rfl⟩
instance : FnOk Tryz.prog 146 := ⟨fun _ _ => by kernel_rfl⟩
instance : FnOk Tryz.prog 147 := ⟨fun _ _ => by kernel_rfl⟩
instance : FnOk Tryz.prog 148 := ⟨fun _ _ => by kernel_rfl⟩
instance : FnOk Tryz.prog 149 := ⟨fun _ _ => by kernel_rfl⟩
instance : FnOk Tryz.prog 150 := ⟨fun _ _ => by kernel_rfl⟩
instance : FnOk Tryz.prog 151 := ⟨fun _ _ => by kernel_rfl⟩
instance : FnOk Tryz.prog 153 := ⟨fun _ _ => by kernel_rfl⟩
instance : FnOk Tryz.prog 154 := ⟨fun _ _ => by kernel_rfl⟩
instance : FnOk Tryz.prog 155 := ⟨fun _ _ => by kernel_rfl⟩
instance : FnOk Tryz.prog 156 := ⟨fun _ _ => by kernel_rfl⟩
instance : FnOk Tryz.prog 157 := ⟨fun _ _ => by kernel_rfl⟩
instance : FnOk Tryz.prog 158 := ⟨fun _ _ => by kernel_rfl⟩
instance : FnOk Tryz.prog 159 := ⟨fun _ _ => by kernel_rfl⟩
instance : FnOk Tryz.prog 160 := ⟨fun _ _ => by kernel_rfl⟩
instance : FnOk Tryz.prog 161 := ⟨fun _ _ => by kernel_rfl⟩
instance : FnOk Tryz.prog 162 := ⟨fun _ _ => by kernel_rfl⟩
instance : FnOk Tryz.prog 163 := ⟨fun _ _ => by kernel_rfl⟩
instance : FnOk Tryz.prog 164 := ⟨fun _ _ => by kernel_rfl⟩
instance : FnOk Tryz.prog 165 := ⟨fun _ _ => by kernel_rfl⟩
instance : FnOk Tryz.prog 166 := ⟨fun _ _ => by kernel_rfl⟩
instance : FnOk Tryz.prog 167 := ⟨fun _ _ => by kernel_rfl⟩
instance : FnOk Tryz.prog 168 := ⟨fun _ _ => by kernel_rfl⟩
instance : FnOk Tryz.prog 169 := ⟨fun _ _ => by kernel_rfl⟩
instance : FnOk Tryz.prog 172 := ⟨fun _ _ => by kernel_rfl⟩
instance : FnOk Tryz.prog 173 := ⟨fun _ _ => by kernel_rfl⟩
instance : FnOk Tryz.prog 174 := ⟨fun _ _ => by kernel_rfl⟩
instance : FnOk Tryz.prog 175 := ⟨fun _ _ => by kernel_rfl⟩
instance : FnOk Tryz.prog 176 := ⟨fun _ _ => by kernel_rfl⟩
instance : FnOk Tryz.prog 177 := ⟨fun _ _ => by kernel_rfl⟩
instance : FnOk Tryz.prog 178 := ⟨fun _ _ => by kernel_rfl⟩
instance : FnOk Tryz.prog 179 := ⟨fun _ _ => by kernel_rfl⟩
instance : FnOk Tryz.prog 180 := ⟨fun _ _ => by kernel_rfl⟩
instance : FnOk Tryz.prog 181 := ⟨fun _ _ => by kernel_rfl⟩
instance : FnOk Tryz.prog 182 := ⟨fun _ _ => by kernel_rfl⟩
instance : FnOk Tryz.prog 183 := ⟨fun _ _ => by kernel_rfl⟩
instance : FnOk Tryz.prog 184 := ⟨fun _ _ => by kernel_rfl⟩
instance : FnOk Tryz.prog 185 := ⟨fun _ _ => by kernel_rfl⟩
instance : FnOk Tryz.prog 187 := ⟨fun _ _ => by kernel_rfl⟩
instance : FnOk Tryz.prog 188 := ⟨fun _ _ => by kernel_rfl⟩
instance : FnOk Tryz.prog 189 := ⟨fun _ _ => by kernel_rfl⟩
instance : FnOk Tryz.prog 190 := ⟨fun _ _ => by kernel_rfl⟩
instance : FnOk Tryz.prog 191 := ⟨fun _ _ => by kernel_rfl⟩
instance : FnOk Tryz.prog 192 := ⟨fun _ _ => by kernel_rfl⟩
instance : FnOk Tryz.prog 193 := ⟨fun _ _ => by kernel_rfl⟩
end Go.Proofs.YtbgfkhliideegaaGreat
