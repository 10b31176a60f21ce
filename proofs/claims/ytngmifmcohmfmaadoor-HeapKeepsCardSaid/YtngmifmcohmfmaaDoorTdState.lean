/- State: the state of a draft. Under: nothing. -/
import Derived.Test.YtngmifmcohmfmaaDoorTdHeap
namespace Go.Ab.Td
open Go Go.Ab

/-- A state's cells: its operands, dictionaries, heap, and last of all its seed. -/
def st67 (a b c z : AV) : List AV := [a, b, c, .emp 3, .pv (.int .i64 (0)), .pv (.int .i64 (0)), .pv (.int .i64 (0)), .pv (.int .i64 (0)), .pv (.int .i64 (0)), .pv (.int .i64 (0)), .pv (.int .i64 (0)), .emp 7, .pv (.int .i64 (0)), .pv (.int .i64 (0)), .pv (.int .i64 (0)), .pv (.int .i64 (0)), .pv (.int .i64 (0)), .pv (.int .i64 (0)), .pv (.int .i64 (0)), .pv (.int .i64 (0)), .pv (.int .i64 (0)), .pv (.int .i64 (0)), .pv (.int .i64 (0)), .pv (.int .i64 (0)), .pv (.int .i64 (0)), .pv (.int .i64 (0)), .pv (.int .i64 (0)), .pv (.int .i64 (0)), .pv (.int .i64 (0)), .pv (.int .i64 (0)), .pv (.int .i64 (0)), .pv (.int .i64 (0)), .pv (.bool false), .pv (.bool false), .emp 47, .pv (.int .i64 (0)), .pv (.int .i64 (0)), .pv (.int .i64 (0)), .pv (.int .i64 (0)), .pv (.int .i64 (0)), .pv (.int .i64 (0)), .pv (.int .i64 (0)), .pv (.int .i64 (0)), .emp 1, .pv (.int .i64 (0)), .pv (.int .i64 (0)), .emp 2, .pv (.int .i64 (0)), .pv (.bool false), .pv (.int .i64 (0)), .pv (.str []), .pv (.int .i64 (0)), .pv (.int .i64 (0)), .pv (.int .i64 (0)), .pv (.int .i64 (0)), .pv (.int .i64 (0)), .pv (.int .i64 (0)), .pv (.int .i64 (0)), .pv (.int .i64 (0)), .pv (.int .i64 (0)), .pv (.int .i64 (0)), .pv (.int .i64 (0)), .emp 57, .emp 47, .emp 3, .pv (.str []), z]
section
variable (cells ops dicts H : List (List PV))
def zB : Nat × Option SObj := (1, some (.box 67 [st67 (.emp 7) (.emp 7) (.emp 7) (.pv (.int .i64 0))] false))
end

attribute [local irreducible] compat

end Go.Ab.Td
