/- Instructions as values (layer 18). -/
import Derived.Test.YtdmnfaefakceiaaGreatVdr
set_option linter.unusedSimpArgs false
set_option linter.unusedVariables false
namespace Go.Proofs.YtdmnfaefakceiaaGreat
open Go.HL Go.RowKit Pb
/-- An instruction. -/
structure Ins where
  op : Int
  fn : Int
  bs : Int
  n : Int
  dst : Int
  a : Int
  b : Int
  c : Int
  m0 : Int
  m1 : Int
  m2 : Int
  m3 : Int
  p0 : Int
  p1 : Int
  p2 : Int
  p3 : Int
  deriving DecidableEq
def Ins.row (i : Ins) : List Value := [.int .i64 i.op, .int .i64 i.fn, .int .i64 i.bs, .int .i64 i.n, .int .i64 i.dst, .int .i64 i.a, .int .i64 i.b, .int .i64 i.c,
  .int .i32 i.m0, .int .i32 i.m1, .int .i32 i.m2, .int .i32 i.m3, .int .i64 i.p0, .int .i64 i.p1, .int .i64 i.p2, .int .i64 i.p3]
def Ins.v (i : Ins) : Value := .agg i.row.toArray
def Ins.zero : Ins := ⟨0, 0, 0, 0, 0, 0, 0, 0, 0, 0, 0, 0, 0, 0, 0, 0⟩

theorem args_le (fn bs : Int) : 0 ≤ args fn bs ∧ args fn bs ≤ 3 := by unfold args; (repeat' split) <;> omega
end Go.Proofs.YtdmnfaefakceiaaGreat
