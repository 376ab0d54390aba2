/- Closed facts on the program's table of types. -/
import Derived.Test.YtabfdgdckmhhgaaProg
import Derived.Test.YtabfdgdckmhhgaaB3
import Derived.Shelf.SlSortCmp.WholeK
import Derived.Shelf.SlicesG.Cmp
set_option linter.unusedSimpArgs false
set_option linter.unusedVariables false
set_option linter.unusedSectionVars false
set_option linter.deprecated false
namespace Go.Mw
open Go.Proofs
@[go_sem] theorem f_t3 : tySize Try.prog 3 = some 1 ∧ tyBytes Try.prog 3 = some 8 ∧ tyAg Try.prog 3 = some false ∧ tyEl Try.prog 3 = none ∧ tyInt Try.prog 3 = some IntKind.i64 ∧ tyStr Try.prog 3 = false ∧ tyBool Try.prog 3 = false ∧ tyArr Try.prog 3 = none ∧ tyArrA Try.prog 3 = none ∧ tyInts Try.prog 3 = none ∧ tyPlaces Try.prog 3 = none ∧ zeroLs Try.prog 3 = some (false, [D.raw (Value.int IntKind.i64 (0))]) ∧ Program.concrete Try.prog 3 = true := by and_intros <;> kernel_rfl
@[go_sem] theorem f_t4 : tySize Try.prog 4 = some 1 ∧ tyBytes Try.prog 4 = some 1 ∧ tyAg Try.prog 4 = some false ∧ tyEl Try.prog 4 = none ∧ tyInt Try.prog 4 = none ∧ tyStr Try.prog 4 = false ∧ tyBool Try.prog 4 = true ∧ tyArr Try.prog 4 = none ∧ tyArrA Try.prog 4 = none ∧ tyInts Try.prog 4 = none ∧ tyPlaces Try.prog 4 = none ∧ zeroLs Try.prog 4 = some (false, [D.raw (Value.bool false)]) ∧ Program.concrete Try.prog 4 = true := by and_intros <;> kernel_rfl
@[go_sem] theorem f_t5 : tySize Try.prog 5 = some 1 ∧ tyBytes Try.prog 5 = some 1 ∧ tyAg Try.prog 5 = some false ∧ tyEl Try.prog 5 = none ∧ tyInt Try.prog 5 = some IntKind.u8 ∧ tyStr Try.prog 5 = false ∧ tyBool Try.prog 5 = false ∧ tyArr Try.prog 5 = none ∧ tyArrA Try.prog 5 = none ∧ tyInts Try.prog 5 = none ∧ tyPlaces Try.prog 5 = none ∧ zeroLs Try.prog 5 = some (false, [D.raw (Value.int IntKind.u8 (0))]) ∧ Program.concrete Try.prog 5 = true := by and_intros <;> kernel_rfl
@[go_sem] theorem f_t9 : tySize Try.prog 9 = some 1 ∧ tyBytes Try.prog 9 = some 16 ∧ tyAg Try.prog 9 = some false ∧ tyEl Try.prog 9 = none ∧ tyInt Try.prog 9 = none ∧ tyStr Try.prog 9 = true ∧ tyBool Try.prog 9 = false ∧ tyArr Try.prog 9 = none ∧ tyArrA Try.prog 9 = none ∧ tyInts Try.prog 9 = none ∧ tyPlaces Try.prog 9 = none ∧ zeroLs Try.prog 9 = some (false, [D.raw (Value.string { data := { toList := [] } })]) ∧ Program.concrete Try.prog 9 = true := by and_intros <;> kernel_rfl
@[go_sem] theorem f_t22 : tySize Try.prog 22 = some 1 ∧ tyBytes Try.prog 22 = some 24 ∧ tyAg Try.prog 22 = some false ∧ tyEl Try.prog 22 = some 69 ∧ tyInt Try.prog 22 = none ∧ tyStr Try.prog 22 = false ∧ tyBool Try.prog 22 = false ∧ tyArr Try.prog 22 = none ∧ tyArrA Try.prog 22 = none ∧ tyInts Try.prog 22 = none ∧ tyPlaces Try.prog 22 = none ∧ zeroLs Try.prog 22 = some (false, [D.raw (Value.slice none 0 0)]) ∧ Program.concrete Try.prog 22 = true := by and_intros <;> kernel_rfl
@[go_sem] theorem f_t23 : tySize Try.prog 23 = some 1 ∧ tyBytes Try.prog 23 = some 24 ∧ tyAg Try.prog 23 = some false ∧ tyEl Try.prog 23 = some 3 ∧ tyInt Try.prog 23 = none ∧ tyStr Try.prog 23 = false ∧ tyBool Try.prog 23 = false ∧ tyArr Try.prog 23 = none ∧ tyArrA Try.prog 23 = none ∧ tyInts Try.prog 23 = none ∧ tyPlaces Try.prog 23 = none ∧ zeroLs Try.prog 23 = some (false, [D.raw (Value.slice none 0 0)]) ∧ Program.concrete Try.prog 23 = true := by and_intros <;> kernel_rfl
@[go_sem] theorem f_t24 : tySize Try.prog 24 = some 1 ∧ tyBytes Try.prog 24 = some 24 ∧ tyAg Try.prog 24 = some false ∧ tyEl Try.prog 24 = some 42 ∧ tyInt Try.prog 24 = none ∧ tyStr Try.prog 24 = false ∧ tyBool Try.prog 24 = false ∧ tyArr Try.prog 24 = none ∧ tyArrA Try.prog 24 = none ∧ tyInts Try.prog 24 = none ∧ tyPlaces Try.prog 24 = none ∧ zeroLs Try.prog 24 = some (false, [D.raw (Value.slice none 0 0)]) ∧ Program.concrete Try.prog 24 = true := by and_intros <;> kernel_rfl
@[go_sem] theorem f_t25 : tySize Try.prog 25 = some 1 ∧ tyBytes Try.prog 25 = some 24 ∧ tyAg Try.prog 25 = some false ∧ tyEl Try.prog 25 = some 47 ∧ tyInt Try.prog 25 = none ∧ tyStr Try.prog 25 = false ∧ tyBool Try.prog 25 = false ∧ tyArr Try.prog 25 = none ∧ tyArrA Try.prog 25 = none ∧ tyInts Try.prog 25 = none ∧ tyPlaces Try.prog 25 = none ∧ zeroLs Try.prog 25 = some (false, [D.raw (Value.slice none 0 0)]) ∧ Program.concrete Try.prog 25 = true := by and_intros <;> kernel_rfl
@[go_sem] theorem f_t27 : tySize Try.prog 27 = some 8 ∧ tyBytes Try.prog 27 = some 128 ∧ tyAg Try.prog 27 = some true ∧ tyEl Try.prog 27 = none ∧ tyInt Try.prog 27 = none ∧ tyStr Try.prog 27 = false ∧ tyBool Try.prog 27 = false ∧ tyArr Try.prog 27 = none ∧ tyArrA Try.prog 27 = none ∧ tyInts Try.prog 27 = none ∧ tyPlaces Try.prog 27 = some [(0, 1), (1, 1), (2, 1), (3, 1), (4, 1), (5, 1), (6, 1), (7, 1)] ∧ zeroLs Try.prog 27 = some (true, [D.raw (Value.int IntKind.i64 (0)), D.raw (Value.int IntKind.i64 (0)), D.raw (Value.int IntKind.i64 (0)), D.raw (Value.int IntKind.i64 (0)), D.raw (Value.slice none 0 0), D.raw (Value.slice none 0 0), D.raw (Value.slice none 0 0), D.raw (Value.slice none 0 0)]) ∧ Program.concrete Try.prog 27 = true := by and_intros <;> kernel_rfl
@[go_sem] theorem f_t30 : tySize Try.prog 30 = some 1 ∧ tyBytes Try.prog 30 = some 8 ∧ tyAg Try.prog 30 = some false ∧ tyEl Try.prog 30 = none ∧ tyInt Try.prog 30 = some IntKind.i64 ∧ tyStr Try.prog 30 = false ∧ tyBool Try.prog 30 = false ∧ tyArr Try.prog 30 = none ∧ tyArrA Try.prog 30 = none ∧ tyInts Try.prog 30 = none ∧ tyPlaces Try.prog 30 = none ∧ zeroLs Try.prog 30 = some (false, [D.raw (Value.int IntKind.i64 (0))]) ∧ Program.concrete Try.prog 30 = true := by and_intros <;> kernel_rfl
@[go_sem] theorem f_t34 : tySize Try.prog 34 = some 1 ∧ tyBytes Try.prog 34 = some 24 ∧ tyAg Try.prog 34 = some false ∧ tyEl Try.prog 34 = some 40 ∧ tyInt Try.prog 34 = none ∧ tyStr Try.prog 34 = false ∧ tyBool Try.prog 34 = false ∧ tyArr Try.prog 34 = none ∧ tyArrA Try.prog 34 = none ∧ tyInts Try.prog 34 = none ∧ tyPlaces Try.prog 34 = none ∧ zeroLs Try.prog 34 = some (false, [D.raw (Value.slice none 0 0)]) ∧ Program.concrete Try.prog 34 = true := by and_intros <;> kernel_rfl
@[go_sem] theorem f_t40 : tySize Try.prog 40 = some 3 ∧ tyBytes Try.prog 40 = some 24 ∧ tyAg Try.prog 40 = some true ∧ tyEl Try.prog 40 = none ∧ tyInt Try.prog 40 = none ∧ tyStr Try.prog 40 = false ∧ tyBool Try.prog 40 = false ∧ tyArr Try.prog 40 = none ∧ tyArrA Try.prog 40 = none ∧ tyInts Try.prog 40 = some 3 ∧ tyPlaces Try.prog 40 = some [(0, 1), (1, 1), (2, 1)] ∧ zeroLs Try.prog 40 = some (true, [D.raw (Value.int IntKind.i64 (0)), D.raw (Value.int IntKind.i64 (0)), D.raw (Value.int IntKind.i64 (0))]) ∧ Program.concrete Try.prog 40 = true := by and_intros <;> kernel_rfl
@[go_sem] theorem f_t42 : tySize Try.prog 42 = some 3 ∧ tyBytes Try.prog 42 = some 24 ∧ tyAg Try.prog 42 = some true ∧ tyEl Try.prog 42 = none ∧ tyInt Try.prog 42 = none ∧ tyStr Try.prog 42 = false ∧ tyBool Try.prog 42 = false ∧ tyArr Try.prog 42 = none ∧ tyArrA Try.prog 42 = none ∧ tyInts Try.prog 42 = some 3 ∧ tyPlaces Try.prog 42 = some [(0, 1), (1, 1), (2, 1)] ∧ zeroLs Try.prog 42 = some (true, [D.raw (Value.int IntKind.i64 (0)), D.raw (Value.int IntKind.i64 (0)), D.raw (Value.int IntKind.i64 (0))]) ∧ Program.concrete Try.prog 42 = true := by and_intros <;> kernel_rfl
@[go_sem] theorem f_t43 : tySize Try.prog 43 = some 1 ∧ tyBytes Try.prog 43 = some 2 ∧ tyAg Try.prog 43 = some false ∧ tyEl Try.prog 43 = none ∧ tyInt Try.prog 43 = some IntKind.u16 ∧ tyStr Try.prog 43 = false ∧ tyBool Try.prog 43 = false ∧ tyArr Try.prog 43 = none ∧ tyArrA Try.prog 43 = none ∧ tyInts Try.prog 43 = none ∧ tyPlaces Try.prog 43 = none ∧ zeroLs Try.prog 43 = some (false, [D.raw (Value.int IntKind.u16 (0))]) ∧ Program.concrete Try.prog 43 = true := by and_intros <;> kernel_rfl
@[go_sem] theorem f_t47 : tySize Try.prog 47 = some 6 ∧ tyBytes Try.prog 47 = some 48 ∧ tyAg Try.prog 47 = some true ∧ tyEl Try.prog 47 = none ∧ tyInt Try.prog 47 = none ∧ tyStr Try.prog 47 = false ∧ tyBool Try.prog 47 = false ∧ tyArr Try.prog 47 = none ∧ tyArrA Try.prog 47 = none ∧ tyInts Try.prog 47 = some 6 ∧ tyPlaces Try.prog 47 = some [(0, 1), (1, 1), (2, 1), (3, 1), (4, 1), (5, 1)] ∧ zeroLs Try.prog 47 = some (true, [D.raw (Value.int IntKind.i64 (0)), D.raw (Value.int IntKind.i64 (0)), D.raw (Value.int IntKind.i64 (0)), D.raw (Value.int IntKind.i64 (0)), D.raw (Value.int IntKind.i64 (0)), D.raw (Value.int IntKind.i64 (0))]) ∧ Program.concrete Try.prog 47 = true := by and_intros <;> kernel_rfl
@[go_sem] theorem f_t48 : tySize Try.prog 48 = some 1 ∧ tyBytes Try.prog 48 = some 24 ∧ tyAg Try.prog 48 = some false ∧ tyEl Try.prog 48 = some 51 ∧ tyInt Try.prog 48 = none ∧ tyStr Try.prog 48 = false ∧ tyBool Try.prog 48 = false ∧ tyArr Try.prog 48 = none ∧ tyArrA Try.prog 48 = none ∧ tyInts Try.prog 48 = none ∧ tyPlaces Try.prog 48 = none ∧ zeroLs Try.prog 48 = some (false, [D.raw (Value.slice none 0 0)]) ∧ Program.concrete Try.prog 48 = true := by and_intros <;> kernel_rfl
@[go_sem] theorem f_t51 : tySize Try.prog 51 = some 2 ∧ tyBytes Try.prog 51 = some 16 ∧ tyAg Try.prog 51 = some true ∧ tyEl Try.prog 51 = none ∧ tyInt Try.prog 51 = none ∧ tyStr Try.prog 51 = false ∧ tyBool Try.prog 51 = false ∧ tyArr Try.prog 51 = none ∧ tyArrA Try.prog 51 = none ∧ tyInts Try.prog 51 = some 2 ∧ tyPlaces Try.prog 51 = some [(0, 1), (1, 1)] ∧ zeroLs Try.prog 51 = some (true, [D.raw (Value.int IntKind.i64 (0)), D.raw (Value.int IntKind.i64 (0))]) ∧ Program.concrete Try.prog 51 = true := by and_intros <;> kernel_rfl
@[go_sem] theorem f_t54 : tySize Try.prog 54 = some 1 ∧ tyBytes Try.prog 54 = some 8 ∧ tyAg Try.prog 54 = some false ∧ tyEl Try.prog 54 = none ∧ tyInt Try.prog 54 = none ∧ tyStr Try.prog 54 = false ∧ tyBool Try.prog 54 = false ∧ tyArr Try.prog 54 = none ∧ tyArrA Try.prog 54 = none ∧ tyInts Try.prog 54 = none ∧ tyPlaces Try.prog 54 = none ∧ zeroLs Try.prog 54 = some (false, [D.raw (Value.pointer none)]) ∧ Program.concrete Try.prog 54 = true := by and_intros <;> kernel_rfl
@[go_sem] theorem f_t57 : tySize Try.prog 57 = some 1 ∧ tyBytes Try.prog 57 = some 8 ∧ tyAg Try.prog 57 = some false ∧ tyEl Try.prog 57 = none ∧ tyInt Try.prog 57 = none ∧ tyStr Try.prog 57 = false ∧ tyBool Try.prog 57 = false ∧ tyArr Try.prog 57 = none ∧ tyArrA Try.prog 57 = none ∧ tyInts Try.prog 57 = none ∧ tyPlaces Try.prog 57 = none ∧ zeroLs Try.prog 57 = some (false, [D.raw Value.nilFunc]) ∧ Program.concrete Try.prog 57 = true := by and_intros <;> kernel_rfl
@[go_sem] theorem f_t62 : tySize Try.prog 62 = some 2 ∧ tyBytes Try.prog 62 = some 16 ∧ tyAg Try.prog 62 = some true ∧ tyEl Try.prog 62 = none ∧ tyInt Try.prog 62 = none ∧ tyStr Try.prog 62 = false ∧ tyBool Try.prog 62 = false ∧ tyArr Try.prog 62 = some (2, 1) ∧ tyArrA Try.prog 62 = some (2, 1, false) ∧ tyInts Try.prog 62 = none ∧ tyPlaces Try.prog 62 = some [(0, 1), (1, 1)] ∧ zeroLs Try.prog 62 = some (true, [D.raw (Value.int IntKind.i64 (0)), D.raw (Value.int IntKind.i64 (0))]) ∧ Program.concrete Try.prog 62 = true := by and_intros <;> kernel_rfl
@[go_sem] theorem f_t66 : tySize Try.prog 66 = some 1 ∧ tyBytes Try.prog 66 = some 8 ∧ tyAg Try.prog 66 = some false ∧ tyEl Try.prog 66 = none ∧ tyInt Try.prog 66 = none ∧ tyStr Try.prog 66 = false ∧ tyBool Try.prog 66 = false ∧ tyArr Try.prog 66 = none ∧ tyArrA Try.prog 66 = none ∧ tyInts Try.prog 66 = none ∧ tyPlaces Try.prog 66 = none ∧ zeroLs Try.prog 66 = some (false, [D.raw Value.nilFunc]) ∧ Program.concrete Try.prog 66 = true := by and_intros <;> kernel_rfl
@[go_sem] theorem f_t69 : tySize Try.prog 69 = some 2 ∧ tyBytes Try.prog 69 = some 16 ∧ tyAg Try.prog 69 = some true ∧ tyEl Try.prog 69 = none ∧ tyInt Try.prog 69 = none ∧ tyStr Try.prog 69 = false ∧ tyBool Try.prog 69 = false ∧ tyArr Try.prog 69 = none ∧ tyArrA Try.prog 69 = none ∧ tyInts Try.prog 69 = some 2 ∧ tyPlaces Try.prog 69 = some [(0, 1), (1, 1)] ∧ zeroLs Try.prog 69 = some (true, [D.raw (Value.int IntKind.i64 (0)), D.raw (Value.int IntKind.i64 (0))]) ∧ Program.concrete Try.prog 69 = true := by and_intros <;> kernel_rfl
@[go_sem] theorem f_t70 : tySize Try.prog 70 = some 1 ∧ tyBytes Try.prog 70 = some 24 ∧ tyAg Try.prog 70 = some false ∧ tyEl Try.prog 70 = some 74 ∧ tyInt Try.prog 70 = none ∧ tyStr Try.prog 70 = false ∧ tyBool Try.prog 70 = false ∧ tyArr Try.prog 70 = none ∧ tyArrA Try.prog 70 = none ∧ tyInts Try.prog 70 = none ∧ tyPlaces Try.prog 70 = none ∧ zeroLs Try.prog 70 = some (false, [D.raw (Value.slice none 0 0)]) ∧ Program.concrete Try.prog 70 = true := by and_intros <;> kernel_rfl
@[go_sem] theorem f_t72 : tySize Try.prog 72 = some 10 ∧ tyBytes Try.prog 72 = some 160 ∧ tyAg Try.prog 72 = some true ∧ tyEl Try.prog 72 = none ∧ tyInt Try.prog 72 = none ∧ tyStr Try.prog 72 = false ∧ tyBool Try.prog 72 = false ∧ tyArr Try.prog 72 = none ∧ tyArrA Try.prog 72 = none ∧ tyInts Try.prog 72 = none ∧ tyPlaces Try.prog 72 = some [(0, 8), (8, 1), (9, 1)] ∧ zeroLs Try.prog 72 = some (true, [D.raw (Value.int IntKind.i64 (0)), D.raw (Value.int IntKind.i64 (0)), D.raw (Value.int IntKind.i64 (0)), D.raw (Value.int IntKind.i64 (0)), D.raw (Value.slice none 0 0), D.raw (Value.slice none 0 0), D.raw (Value.slice none 0 0), D.raw (Value.slice none 0 0), D.raw Value.nilFunc, D.raw (Value.slice none 0 0)]) ∧ Program.concrete Try.prog 72 = true := by and_intros <;> kernel_rfl
@[go_sem] theorem f_t74 : tySize Try.prog 74 = some 1 ∧ tyBytes Try.prog 74 = some 16 ∧ tyAg Try.prog 74 = some false ∧ tyEl Try.prog 74 = none ∧ tyInt Try.prog 74 = none ∧ tyStr Try.prog 74 = false ∧ tyBool Try.prog 74 = false ∧ tyArr Try.prog 74 = none ∧ tyArrA Try.prog 74 = none ∧ tyInts Try.prog 74 = none ∧ tyPlaces Try.prog 74 = none ∧ zeroLs Try.prog 74 = some (false, [D.raw Value.nilIface]) ∧ Program.concrete Try.prog 74 = false := by and_intros <;> kernel_rfl
@[go_sem] theorem f_t79 : tySize Try.prog 79 = some 1 ∧ tyBytes Try.prog 79 = some 8 ∧ tyAg Try.prog 79 = some false ∧ tyEl Try.prog 79 = none ∧ tyInt Try.prog 79 = none ∧ tyStr Try.prog 79 = false ∧ tyBool Try.prog 79 = false ∧ tyArr Try.prog 79 = none ∧ tyArrA Try.prog 79 = none ∧ tyInts Try.prog 79 = none ∧ tyPlaces Try.prog 79 = none ∧ zeroLs Try.prog 79 = some (false, [D.raw (Value.map none)]) ∧ Program.concrete Try.prog 79 = true := by and_intros <;> kernel_rfl
@[go_sem] theorem f_t82 : tySize Try.prog 82 = some 2 ∧ tyBytes Try.prog 82 = some 16 ∧ tyAg Try.prog 82 = some true ∧ tyEl Try.prog 82 = none ∧ tyInt Try.prog 82 = none ∧ tyStr Try.prog 82 = false ∧ tyBool Try.prog 82 = false ∧ tyArr Try.prog 82 = none ∧ tyArrA Try.prog 82 = none ∧ tyInts Try.prog 82 = some 2 ∧ tyPlaces Try.prog 82 = some [(0, 1), (1, 1)] ∧ zeroLs Try.prog 82 = some (true, [D.raw (Value.int IntKind.i64 (0)), D.raw (Value.int IntKind.i64 (0))]) ∧ Program.concrete Try.prog 82 = true := by and_intros <;> kernel_rfl
@[go_sem] theorem f_t84 : tySize Try.prog 84 = some 1 ∧ tyBytes Try.prog 84 = some 8 ∧ tyAg Try.prog 84 = some false ∧ tyEl Try.prog 84 = none ∧ tyInt Try.prog 84 = none ∧ tyStr Try.prog 84 = false ∧ tyBool Try.prog 84 = false ∧ tyArr Try.prog 84 = none ∧ tyArrA Try.prog 84 = none ∧ tyInts Try.prog 84 = none ∧ tyPlaces Try.prog 84 = none ∧ zeroLs Try.prog 84 = some (false, [D.raw Value.nilFunc]) ∧ Program.concrete Try.prog 84 = true := by and_intros <;> kernel_rfl
@[go_sem] theorem f_t88 : tySize Try.prog 88 = some 1 ∧ tyBytes Try.prog 88 = some 8 ∧ tyAg Try.prog 88 = some false ∧ tyEl Try.prog 88 = none ∧ tyInt Try.prog 88 = none ∧ tyStr Try.prog 88 = false ∧ tyBool Try.prog 88 = false ∧ tyArr Try.prog 88 = none ∧ tyArrA Try.prog 88 = none ∧ tyInts Try.prog 88 = none ∧ tyPlaces Try.prog 88 = none ∧ zeroLs Try.prog 88 = some (false, [D.raw Value.nilFunc]) ∧ Program.concrete Try.prog 88 = true := by and_intros <;> kernel_rfl
@[go_sem] theorem f_t90 : tySize Try.prog 90 = some 1 ∧ tyBytes Try.prog 90 = some 8 ∧ tyAg Try.prog 90 = some false ∧ tyEl Try.prog 90 = none ∧ tyInt Try.prog 90 = none ∧ tyStr Try.prog 90 = false ∧ tyBool Try.prog 90 = false ∧ tyArr Try.prog 90 = none ∧ tyArrA Try.prog 90 = none ∧ tyInts Try.prog 90 = none ∧ tyPlaces Try.prog 90 = none ∧ zeroLs Try.prog 90 = some (false, [D.raw (Value.pointer none)]) ∧ Program.concrete Try.prog 90 = true := by and_intros <;> kernel_rfl
@[go_sem] theorem f_t91 : tySize Try.prog 91 = some 1 ∧ tyBytes Try.prog 91 = some 8 ∧ tyAg Try.prog 91 = some false ∧ tyEl Try.prog 91 = none ∧ tyInt Try.prog 91 = none ∧ tyStr Try.prog 91 = false ∧ tyBool Try.prog 91 = false ∧ tyArr Try.prog 91 = none ∧ tyArrA Try.prog 91 = none ∧ tyInts Try.prog 91 = none ∧ tyPlaces Try.prog 91 = none ∧ zeroLs Try.prog 91 = some (false, [D.raw Value.nilFunc]) ∧ Program.concrete Try.prog 91 = true := by and_intros <;> kernel_rfl
@[go_sem] theorem f_t92 : tySize Try.prog 92 = some 1 ∧ tyBytes Try.prog 92 = some 8 ∧ tyAg Try.prog 92 = some false ∧ tyEl Try.prog 92 = none ∧ tyInt Try.prog 92 = none ∧ tyStr Try.prog 92 = false ∧ tyBool Try.prog 92 = false ∧ tyArr Try.prog 92 = none ∧ tyArrA Try.prog 92 = none ∧ tyInts Try.prog 92 = none ∧ tyPlaces Try.prog 92 = none ∧ zeroLs Try.prog 92 = some (false, [D.raw (Value.pointer none)]) ∧ Program.concrete Try.prog 92 = true := by and_intros <;> kernel_rfl
@[go_sem] theorem f_t93 : tySize Try.prog 93 = some 1 ∧ tyBytes Try.prog 93 = some 8 ∧ tyAg Try.prog 93 = some false ∧ tyEl Try.prog 93 = none ∧ tyInt Try.prog 93 = none ∧ tyStr Try.prog 93 = false ∧ tyBool Try.prog 93 = false ∧ tyArr Try.prog 93 = none ∧ tyArrA Try.prog 93 = none ∧ tyInts Try.prog 93 = none ∧ tyPlaces Try.prog 93 = none ∧ zeroLs Try.prog 93 = some (false, [D.raw Value.nilFunc]) ∧ Program.concrete Try.prog 93 = true := by and_intros <;> kernel_rfl
@[go_sem] theorem f_t94 : tySize Try.prog 94 = some 1 ∧ tyBytes Try.prog 94 = some 8 ∧ tyAg Try.prog 94 = some false ∧ tyEl Try.prog 94 = none ∧ tyInt Try.prog 94 = none ∧ tyStr Try.prog 94 = false ∧ tyBool Try.prog 94 = false ∧ tyArr Try.prog 94 = none ∧ tyArrA Try.prog 94 = none ∧ tyInts Try.prog 94 = none ∧ tyPlaces Try.prog 94 = none ∧ zeroLs Try.prog 94 = some (false, [D.raw (Value.pointer none)]) ∧ Program.concrete Try.prog 94 = true := by and_intros <;> kernel_rfl
@[go_sem] theorem f_t95 : tySize Try.prog 95 = some 1 ∧ tyBytes Try.prog 95 = some 8 ∧ tyAg Try.prog 95 = some false ∧ tyEl Try.prog 95 = none ∧ tyInt Try.prog 95 = none ∧ tyStr Try.prog 95 = false ∧ tyBool Try.prog 95 = false ∧ tyArr Try.prog 95 = none ∧ tyArrA Try.prog 95 = none ∧ tyInts Try.prog 95 = none ∧ tyPlaces Try.prog 95 = none ∧ zeroLs Try.prog 95 = some (false, [D.raw Value.nilFunc]) ∧ Program.concrete Try.prog 95 = true := by and_intros <;> kernel_rfl
@[go_sem] theorem f_t96 : tySize Try.prog 96 = some 1 ∧ tyBytes Try.prog 96 = some 8 ∧ tyAg Try.prog 96 = some false ∧ tyEl Try.prog 96 = none ∧ tyInt Try.prog 96 = none ∧ tyStr Try.prog 96 = false ∧ tyBool Try.prog 96 = false ∧ tyArr Try.prog 96 = none ∧ tyArrA Try.prog 96 = none ∧ tyInts Try.prog 96 = none ∧ tyPlaces Try.prog 96 = none ∧ zeroLs Try.prog 96 = some (false, [D.raw (Value.pointer none)]) ∧ Program.concrete Try.prog 96 = true := by and_intros <;> kernel_rfl
@[go_sem] theorem f_t97 : tySize Try.prog 97 = some 1 ∧ tyBytes Try.prog 97 = some 8 ∧ tyAg Try.prog 97 = some false ∧ tyEl Try.prog 97 = none ∧ tyInt Try.prog 97 = none ∧ tyStr Try.prog 97 = false ∧ tyBool Try.prog 97 = false ∧ tyArr Try.prog 97 = none ∧ tyArrA Try.prog 97 = none ∧ tyInts Try.prog 97 = none ∧ tyPlaces Try.prog 97 = none ∧ zeroLs Try.prog 97 = some (false, [D.raw Value.nilFunc]) ∧ Program.concrete Try.prog 97 = true := by and_intros <;> kernel_rfl
@[go_sem] theorem f_t102 : tySize Try.prog 102 = some 1 ∧ tyBytes Try.prog 102 = some 8 ∧ tyAg Try.prog 102 = some false ∧ tyEl Try.prog 102 = none ∧ tyInt Try.prog 102 = none ∧ tyStr Try.prog 102 = false ∧ tyBool Try.prog 102 = false ∧ tyArr Try.prog 102 = none ∧ tyArrA Try.prog 102 = none ∧ tyInts Try.prog 102 = none ∧ tyPlaces Try.prog 102 = none ∧ zeroLs Try.prog 102 = some (false, [D.raw (Value.map none)]) ∧ Program.concrete Try.prog 102 = true := by and_intros <;> kernel_rfl
@[go_sem] theorem f_t106 : tySize Try.prog 106 = some 1 ∧ tyBytes Try.prog 106 = some 8 ∧ tyAg Try.prog 106 = some false ∧ tyEl Try.prog 106 = none ∧ tyInt Try.prog 106 = none ∧ tyStr Try.prog 106 = false ∧ tyBool Try.prog 106 = false ∧ tyArr Try.prog 106 = none ∧ tyArrA Try.prog 106 = none ∧ tyInts Try.prog 106 = none ∧ tyPlaces Try.prog 106 = none ∧ zeroLs Try.prog 106 = some (false, [D.raw Value.nilFunc]) ∧ Program.concrete Try.prog 106 = true := by and_intros <;> kernel_rfl
@[go_sem] theorem f_t108 : tySize Try.prog 108 = some 6 ∧ tyBytes Try.prog 108 = some 48 ∧ tyAg Try.prog 108 = some true ∧ tyEl Try.prog 108 = none ∧ tyInt Try.prog 108 = none ∧ tyStr Try.prog 108 = false ∧ tyBool Try.prog 108 = false ∧ tyArr Try.prog 108 = none ∧ tyArrA Try.prog 108 = none ∧ tyInts Try.prog 108 = some 6 ∧ tyPlaces Try.prog 108 = some [(0, 1), (1, 1), (2, 1), (3, 1), (4, 1), (5, 1)] ∧ zeroLs Try.prog 108 = some (true, [D.raw (Value.int IntKind.i64 (0)), D.raw (Value.int IntKind.i64 (0)), D.raw (Value.int IntKind.i64 (0)), D.raw (Value.int IntKind.i64 (0)), D.raw (Value.int IntKind.i64 (0)), D.raw (Value.int IntKind.i64 (0))]) ∧ Program.concrete Try.prog 108 = true := by and_intros <;> kernel_rfl
@[go_sem] theorem f_t109 : tySize Try.prog 109 = some 6 ∧ tyBytes Try.prog 109 = some 48 ∧ tyAg Try.prog 109 = some true ∧ tyEl Try.prog 109 = none ∧ tyInt Try.prog 109 = none ∧ tyStr Try.prog 109 = false ∧ tyBool Try.prog 109 = false ∧ tyArr Try.prog 109 = none ∧ tyArrA Try.prog 109 = none ∧ tyInts Try.prog 109 = some 6 ∧ tyPlaces Try.prog 109 = some [(0, 1), (1, 1), (2, 1), (3, 1), (4, 1), (5, 1)] ∧ zeroLs Try.prog 109 = some (true, [D.raw (Value.int IntKind.i64 (0)), D.raw (Value.int IntKind.i64 (0)), D.raw (Value.int IntKind.i64 (0)), D.raw (Value.int IntKind.i64 (0)), D.raw (Value.int IntKind.i64 (0)), D.raw (Value.int IntKind.i64 (0))]) ∧ Program.concrete Try.prog 109 = true := by and_intros <;> kernel_rfl
@[go_sem] theorem f_t112 : tySize Try.prog 112 = some 1 ∧ tyBytes Try.prog 112 = some 8 ∧ tyAg Try.prog 112 = some false ∧ tyEl Try.prog 112 = none ∧ tyInt Try.prog 112 = some IntKind.u64 ∧ tyStr Try.prog 112 = false ∧ tyBool Try.prog 112 = false ∧ tyArr Try.prog 112 = none ∧ tyArrA Try.prog 112 = none ∧ tyInts Try.prog 112 = none ∧ tyPlaces Try.prog 112 = none ∧ zeroLs Try.prog 112 = some (false, [D.raw (Value.int IntKind.u64 (0))]) ∧ Program.concrete Try.prog 112 = true := by and_intros <;> kernel_rfl
@[go_sem] theorem f_t114 : tySize Try.prog 114 = some 1 ∧ tyBytes Try.prog 114 = some 8 ∧ tyAg Try.prog 114 = some false ∧ tyEl Try.prog 114 = none ∧ tyInt Try.prog 114 = some IntKind.i64 ∧ tyStr Try.prog 114 = false ∧ tyBool Try.prog 114 = false ∧ tyArr Try.prog 114 = none ∧ tyArrA Try.prog 114 = none ∧ tyInts Try.prog 114 = none ∧ tyPlaces Try.prog 114 = none ∧ zeroLs Try.prog 114 = some (false, [D.raw (Value.int IntKind.i64 (0))]) ∧ Program.concrete Try.prog 114 = true := by and_intros <;> kernel_rfl
@[go_sem] theorem f_t121 : tySize Try.prog 121 = some 1 ∧ tyBytes Try.prog 121 = some 4 ∧ tyAg Try.prog 121 = some false ∧ tyEl Try.prog 121 = none ∧ tyInt Try.prog 121 = some IntKind.u32 ∧ tyStr Try.prog 121 = false ∧ tyBool Try.prog 121 = false ∧ tyArr Try.prog 121 = none ∧ tyArrA Try.prog 121 = none ∧ tyInts Try.prog 121 = none ∧ tyPlaces Try.prog 121 = none ∧ zeroLs Try.prog 121 = some (false, [D.raw (Value.int IntKind.u32 (0))]) ∧ Program.concrete Try.prog 121 = true := by and_intros <;> kernel_rfl
@[go_sem] theorem f_t123 : tySize Try.prog 123 = some 1 ∧ tyBytes Try.prog 123 = some 8 ∧ tyAg Try.prog 123 = some false ∧ tyEl Try.prog 123 = none ∧ tyInt Try.prog 123 = some IntKind.u64 ∧ tyStr Try.prog 123 = false ∧ tyBool Try.prog 123 = false ∧ tyArr Try.prog 123 = none ∧ tyArrA Try.prog 123 = none ∧ tyInts Try.prog 123 = none ∧ tyPlaces Try.prog 123 = none ∧ zeroLs Try.prog 123 = some (false, [D.raw (Value.int IntKind.u64 (0))]) ∧ Program.concrete Try.prog 123 = true := by and_intros <;> kernel_rfl
@[go_sem] theorem f_t124 : tySize Try.prog 124 = some 1 ∧ tyBytes Try.prog 124 = some 8 ∧ tyAg Try.prog 124 = some false ∧ tyEl Try.prog 124 = none ∧ tyInt Try.prog 124 = some IntKind.u64 ∧ tyStr Try.prog 124 = false ∧ tyBool Try.prog 124 = false ∧ tyArr Try.prog 124 = none ∧ tyArrA Try.prog 124 = none ∧ tyInts Try.prog 124 = none ∧ tyPlaces Try.prog 124 = none ∧ zeroLs Try.prog 124 = some (false, [D.raw (Value.int IntKind.u64 (0))]) ∧ Program.concrete Try.prog 124 = true := by and_intros <;> kernel_rfl
@[go_sem] theorem f_x_tyPtr : tyPtr Try.prog 54 = true ∧ tyPtr Try.prog 90 = true ∧ tyPtr Try.prog 92 = true ∧ tyPtr Try.prog 96 = true := by and_intros <;> kernel_rfl
@[go_sem] theorem f_x_tyFld : tyFld Try.prog 27 0 = some (0, 1) ∧ tyFld Try.prog 27 1 = some (1, 1) ∧ tyFld Try.prog 27 2 = some (2, 1) ∧ tyFld Try.prog 27 3 = some (3, 1) ∧ tyFld Try.prog 27 4 = some (4, 1) ∧ tyFld Try.prog 27 5 = some (5, 1) ∧ tyFld Try.prog 27 6 = some (6, 1) ∧ tyFld Try.prog 27 7 = some (7, 1) ∧ tyFld Try.prog 40 0 = some (0, 1) ∧ tyFld Try.prog 40 1 = some (1, 1) ∧ tyFld Try.prog 40 2 = some (2, 1) ∧ tyFld Try.prog 42 0 = some (0, 1) ∧ tyFld Try.prog 42 1 = some (1, 1) ∧ tyFld Try.prog 42 2 = some (2, 1) ∧ tyFld Try.prog 47 0 = some (0, 1) ∧ tyFld Try.prog 47 1 = some (1, 1) ∧ tyFld Try.prog 47 2 = some (2, 1) ∧ tyFld Try.prog 47 3 = some (3, 1) ∧ tyFld Try.prog 47 4 = some (4, 1) ∧ tyFld Try.prog 47 5 = some (5, 1) ∧ tyFld Try.prog 51 0 = some (0, 1) ∧ tyFld Try.prog 51 1 = some (1, 1) ∧ tyFld Try.prog 69 0 = some (0, 1) ∧ tyFld Try.prog 69 1 = some (1, 1) ∧ tyFld Try.prog 72 0 = some (0, 8) ∧ tyFld Try.prog 72 1 = some (8, 1) ∧ tyFld Try.prog 72 2 = some (9, 1) ∧ tyFld Try.prog 108 1 = some (1, 1) ∧ tyFld Try.prog 108 2 = some (2, 1) ∧ tyFld Try.prog 108 3 = some (3, 1) ∧ tyFld Try.prog 109 5 = some (5, 1) := by and_intros <;> kernel_rfl
@[go_sem] theorem f_x_canCall : canCall Try.prog 1 = false ∧ canCall Try.prog 10 = true ∧ canCall Try.prog 11 = true ∧ canCall Try.prog 12 = true ∧ canCall Try.prog 13 = true ∧ canCall Try.prog 14 = true ∧ canCall Try.prog 15 = true ∧ canCall Try.prog 16 = true ∧ canCall Try.prog 17 = true ∧ canCall Try.prog 18 = true ∧ canCall Try.prog 19 = true ∧ canCall Try.prog 20 = true ∧ canCall Try.prog 21 = true ∧ canCall Try.prog 22 = true ∧ canCall Try.prog 23 = true ∧ canCall Try.prog 24 = true ∧ canCall Try.prog 25 = true ∧ canCall Try.prog 26 = true ∧ canCall Try.prog 27 = true ∧ canCall Try.prog 28 = true ∧ canCall Try.prog 29 = true ∧ canCall Try.prog 30 = true ∧ canCall Try.prog 31 = true ∧ canCall Try.prog 32 = true ∧ canCall Try.prog 33 = true ∧ canCall Try.prog 34 = true ∧ canCall Try.prog 35 = true ∧ canCall Try.prog 36 = true ∧ canCall Try.prog 37 = true ∧ canCall Try.prog 38 = true ∧ canCall Try.prog 39 = true ∧ canCall Try.prog 40 = true ∧ canCall Try.prog 41 = true ∧ canCall Try.prog 42 = true ∧ canCall Try.prog 43 = true ∧ canCall Try.prog 44 = true ∧ canCall Try.prog 45 = true ∧ canCall Try.prog 46 = true ∧ canCall Try.prog 47 = true ∧ canCall Try.prog 48 = true ∧ canCall Try.prog 49 = true ∧ canCall Try.prog 50 = true ∧ canCall Try.prog 51 = true ∧ canCall Try.prog 52 = true ∧ canCall Try.prog 53 = true ∧ canCall Try.prog 54 = true ∧ canCall Try.prog 55 = true ∧ canCall Try.prog 56 = true ∧ canCall Try.prog 57 = true ∧ canCall Try.prog 58 = true ∧ canCall Try.prog 59 = true ∧ canCall Try.prog 60 = true ∧ canCall Try.prog 61 = true ∧ canCall Try.prog 62 = true ∧ canCall Try.prog 63 = true ∧ canCall Try.prog 64 = true ∧ canCall Try.prog 65 = true ∧ canCall Try.prog 66 = true ∧ canCall Try.prog 67 = true ∧ canCall Try.prog 68 = true ∧ canCall Try.prog 69 = true ∧ canCall Try.prog 70 = true ∧ canCall Try.prog 71 = true ∧ canCall Try.prog 72 = true ∧ canCall Try.prog 73 = true ∧ canCall Try.prog 74 = true ∧ canCall Try.prog 75 = true ∧ canCall Try.prog 76 = true ∧ canCall Try.prog 77 = true ∧ canCall Try.prog 78 = true ∧ canCall Try.prog 79 = true ∧ canCall Try.prog 80 = true ∧ canCall Try.prog 81 = true ∧ canCall Try.prog 82 = true ∧ canCall Try.prog 83 = true := by and_intros <;> kernel_rfl
@[go_sem] theorem f_x_tyMap : tyMap Try.prog 79 = some (82, 3) ∧ tyMap Try.prog 102 = some (3, 42) := by and_intros <;> kernel_rfl
@[go_sem] theorem f_x_tyKey : tyKey Try.prog 3 = some 0 ∧ tyKey Try.prog 82 = none := by and_intros <;> kernel_rfl
@[go_sem] theorem f_x_methOf : methOf Try.prog 108 "meterworks/bill.fee" = some 99 ∧ methOf Try.prog 108 "meterworks/bill.off" = some 100 ∧ methOf Try.prog 109 "meterworks/bill.fee" = some 101 ∧ methOf Try.prog 109 "meterworks/bill.off" = some 102 := by and_intros <;> kernel_rfl
end Go.Mw
namespace Go.Mw
section
variable {α : Type} (lt : α → α → Bool)
def scanE (x : α) (l : List α) : Nat → Nat
  | 0 => 0
  | n + 1 => match l[n]? with
    | some y => if lt x y = true then scanE x l n else n + 1
    | none => n + 1
def insE (x : α) (l : List α) : List α := l.take (scanE lt x l l.length) ++ [x] ++ l.drop (scanE lt x l l.length)
def isortE (l : List α) : List α := l.foldl (fun acc x => insE lt x acc) []
/-- A row in which x stands between what came in before. -/
def Lt (p t r : List α) (x : α) (c : Nat) : List α := p ++ (t.take c ++ [x] ++ t.drop c) ++ r

variable {lt}
theorem scanE_le (x : α) (l : List α) : ∀ n, scanE lt x l n ≤ n
  | 0 => Nat.le_refl 0
  | n + 1 => by
    unfold scanE
    split
    · split
      · exact Nat.le_succ_of_le (scanE_le x l n)
      · exact Nat.le_refl _
    · exact Nat.le_refl _
theorem scanE_yes {x y : α} {l : List α} {n : Nat} (h : l[n]? = some y) (hl : lt x y = true) : scanE lt x l (n + 1) = scanE lt x l n := by
  rw [scanE, h]; simp [hl]
theorem scanE_no {x y : α} {l : List α} {n : Nat} (h : l[n]? = some y) (hl : lt x y = false) : scanE lt x l (n + 1) = n + 1 := by
  rw [scanE, h]; simp [hl]
theorem len_insE (x : α) (l : List α) : (insE lt x l).length = l.length + 1 := by
  have := scanE_le (lt := lt) x l l.length
  unfold insE; simp; omega
theorem isortE_snoc (l : List α) (x : α) : isortE lt (l ++ [x]) = insE lt x (isortE lt l) := by
  unfold isortE; simp [List.foldl_append]
theorem len_isortE (l : List α) : (isortE lt l).length = l.length := by
  suffices h : ∀ (n : Nat) (l : List α), l.length = n → (isortE lt l).length = n from h _ l rfl
  intro n
  induction n with
  | zero => intro l h; rw [List.eq_nil_of_length_eq_zero h]; rfl
  | succ n ih =>
    intro l h
    obtain ⟨m, x, rfl⟩ : ∃ m x, l = m ++ [x] := by
      refine ⟨l.dropLast, l.getLast (by intro e; simp [e] at h), ?_⟩
      exact (List.dropLast_concat_getLast _).symm
    rw [isortE_snoc, len_insE, ih m (by simpa using h)]
end
end Go.Mw
namespace Go.Mw

section mg
variable {α : Type} (lt : α → α → Bool)
/-- The stable merge. -/
def mg : List α → List α → List α
  | [], r => r
  | a :: l, [] => a :: l
  | a :: l, b :: r => if lt b a = true then b :: mg (a :: l) r else a :: mg l (b :: r)
termination_by l r => l.length + r.length
variable {lt}
/-- In order: what comes later is not before what came earlier. -/
def InO (lt : α → α → Bool) (l : List α) : Prop := l.Pairwise fun x y => lt y x = false
/-- An order in which things can be alike. -/
structure Weak (lt : α → α → Bool) : Prop where
  irr : ∀ x, lt x x = false
  tr : ∀ x y z, lt x y = true → lt y z = true → lt x z = true
  nt : ∀ x y z, lt x y = false → lt y z = false → lt x z = false
theorem Weak.asym (h : Weak lt) {x y : α} (hxy : lt x y = true) : lt y x = false := by
  cases hc : lt y x with
  | false => rfl
  | true => have := h.tr x y x hxy hc; rw [h.irr] at this; cases this
/-- Where a new one comes in. -/
theorem scan_cut (h : Weak lt) {x : α} {l : List α} (ho : InO lt l) : ∀ n, n ≤ l.length → (∀ y ∈ (l.take n).take (scanE lt x l n), lt x y = false) ∧ (∀ y ∈ (l.take n).drop (scanE lt x l n), lt x y = true)
  | 0, _ => by simp
  | n + 1, hn => by
    have hx : l[n]? = some l[n] := List.getElem?_eq_getElem (by omega)
    have ih := scan_cut h (x := x) ho n (by omega)
    have hle := scanE_le (lt := lt) x l n
    have ht : l.take (n + 1) = l.take n ++ [l[n]] := by rw [List.take_add_one, hx]; rfl
    have hl : (l.take n).length = n := by simp; omega
    cases hc : lt x l[n] with
    | true =>
      rw [scanE_yes hx hc, ht]
      refine ⟨fun y hy => ?_, fun y hy => ?_⟩
      · rw [List.take_append_of_le_length (by omega)] at hy
        exact ih.1 y hy
      · rw [List.drop_append_of_le_length (by omega)] at hy
        rcases List.mem_append.1 hy with hy | hy
        · exact ih.2 y hy
        · rw [List.mem_singleton.1 hy]; exact hc
    | false =>
      rw [scanE_no hx hc, ht]
      refine ⟨fun y hy => ?_, fun y hy => ?_⟩
      · rw [List.take_of_length_le (by simp; omega)] at hy
        rcases List.mem_append.1 hy with hy | hy
        · obtain ⟨i, hi⟩ := List.getElem?_of_mem hy
          rw [List.getElem?_take] at hi
          split at hi
          · rename_i hin
            obtain ⟨q1, q2⟩ := List.getElem?_eq_some_iff.1 hi
            have := List.pairwise_iff_getElem.1 ho i n q1 (by omega) hin
            rw [q2] at this
            exact h.nt x l[n] y hc this
          · cases hi
        · rw [List.mem_singleton.1 hy]; exact hc
      · rw [List.drop_of_length_le (by simp; omega)] at hy
        simp at hy
theorem ins_cut (h : Weak lt) {x : α} {l : List α} (ho : InO lt l) : ∃ l1 l2, l = l1 ++ l2 ∧ insE lt x l = l1 ++ [x] ++ l2 ∧ (∀ y ∈ l1, lt x y = false) ∧ (∀ y ∈ l2, lt x y = true) := by
  have hc := scan_cut h (x := x) ho l.length (Nat.le_refl _)
  rw [List.take_length] at hc
  exact ⟨l.take (scanE lt x l l.length), l.drop (scanE lt x l l.length), (List.take_append_drop _ _).symm, rfl, hc.1, hc.2⟩
theorem ino_ins (h : Weak lt) {x : α} {l : List α} (ho : InO lt l) : InO lt (insE lt x l) := by
  obtain ⟨l1, l2, rfl, e, h1, h2⟩ := ins_cut h (x := x) ho
  rw [e]
  unfold InO at *
  rw [List.pairwise_append] at ho
  rw [List.append_assoc, List.pairwise_append]
  refine ⟨ho.1, ?_, fun y hy z hz => ?_⟩
  · show ((x :: l2)).Pairwise _
    rw [List.pairwise_cons]
    exact ⟨fun y hy => h.asym (h2 y hy), ho.2.1⟩
  · rcases List.mem_append.1 hz with hz | hz
    · rw [List.mem_singleton.1 hz]; exact h1 y hy
    · exact ho.2.2 y hy z hz
theorem snoc_ind {p : List α → Prop} (h0 : p []) (h1 : ∀ l x, p l → p (l ++ [x])) : ∀ l, p l := by
  intro l
  have : ∀ n (l : List α), l.length = n → p l := by
    intro n
    induction n with
    | zero => intro l hl; rw [List.eq_nil_of_length_eq_zero hl]; exact h0
    | succ n ih =>
      intro l hl
      have hne : l ≠ [] := fun e => by subst e; simp at hl
      rw [← List.dropLast_concat_getLast hne]
      exact h1 _ _ (ih _ (by simp; omega))
  exact this _ l rfl
theorem ino_sort (h : Weak lt) : ∀ l : List α, InO lt (isortE lt l) := by
  refine snoc_ind (by unfold InO isortE; simp) fun l x ih => ?_
  rw [isortE_snoc]
  exact ino_ins h ih
end mg
end Go.Mw
namespace Go.Bi
open Go.Mw

structure Trf where
  fr : Int
  pence : Int
deriving DecidableEq, Inhabited
structure Nt where
  day : Int
  fig : Int
  came : Int
deriving DecidableEq, Inhabited
structure Dp where
  day : Int
  fr : Int
  to : Int
  err : Int
  alw : Int
  fee : Int
deriving DecidableEq, Inhabited
structure Ac where
  start : Int
  fig : Int
  daily : Int
  stand : Int
  ts : List Trf
  bs : List Int
  ns : List Nt
  ds : List Dp
deriving DecidableEq, Inhabited

def inD (n l h : Int) : Bool := decide (l ≤ n) && decide (n ≤ h)
theorem inD_iff {n l h : Int} : inD n l h = true ↔ l ≤ n ∧ n ≤ h := by simp [inD]

/-- The element before. -/
def prv {α : Type} (l : List α) : Nat → Option α
  | 0 => none
  | i + 1 => l[i]?
/-- Is something so of the first elements, each with the one before it? -/
def pairsT {α : Type} (ok : Option α → α → Bool) (l : List α) : Nat → Bool
  | 0 => true
  | k + 1 => pairsT ok l k && match l[k]? with
    | some x => ok (prv l k) x
    | none => true
def pairsB {α : Type} (ok : Option α → α → Bool) (l : List α) : Bool := pairsT ok l l.length
theorem pairsT_succ {α : Type} {ok : Option α → α → Bool} {l : List α} {k : Nat} {x : α} (h : l[k]? = some x) : pairsT ok l (k + 1) = (pairsT ok l k && ok (prv l k) x) := by rw [pairsT, h]
theorem pairsT_false {α : Type} {ok : Option α → α → Bool} {l : List α} {k : Nat} (h : pairsT ok l k = false) : ∀ m, k ≤ m → pairsT ok l m = false
  | 0, hm => by have : k = 0 := by omega
                subst this; exact h
  | m + 1, hm => by
    by_cases e : k = m + 1
    · subst e; exact h
    · rw [pairsT, pairsT_false h m (by omega), Bool.false_and]
theorem pairsT_iff {α : Type} {ok : Option α → α → Bool} {l : List α} : ∀ {k : Nat}, k ≤ l.length → (pairsT ok l k = true ↔ ∀ i x, i < k → l[i]? = some x → ok (prv l i) x = true)
  | 0, _ => by simp [pairsT]
  | k + 1, hk => by
    have hx := List.getElem?_eq_getElem (show k < l.length by omega)
    rw [pairsT_succ hx, Bool.and_eq_true, pairsT_iff (by omega)]
    constructor
    · rintro ⟨h1, h2⟩ i x hi hxi
      by_cases e : i = k
      · subst e; rw [hx] at hxi; cases hxi; exact h2
      · exact h1 i x (by omega) hxi
    · exact fun h => ⟨fun i x hi hxi => h i x (by omega) hxi, h k _ (by omega) hx⟩

def trfOK (b : Option Trf) (t : Trf) : Bool := inD t.fr 0 131072 && inD t.pence 0 10000 && match b with
  | none => decide (t.fr = 0)
  | some b => decide (b.fr < t.fr)
def dayOK (start : Int) (b : Option Int) (d : Int) : Bool := inD d (start + 1) 131072 && match b with
  | none => true
  | some b => decide (b < d)
def noteOK (start : Int) (n : Nt) : Bool := inD n.day (start + 1) 131072 && inD n.came n.day 131072 && inD n.fig 0 1073741824
def dspP (start : Int) (d : Dp) : Bool := inD d.fr start 131072 && inD d.to (d.fr + 1) 131072 && inD d.day d.to 131072
def dspQ (d : Dp) : Bool := inD d.err (-500) 500 && inD d.alw 0 500 && inD d.fee 0 1000000
def dspOK (start : Int) (b : Option Dp) (d : Dp) : Bool := dspP start d && dspQ d && match b with
  | none => true
  | some b => decide (b.to ≤ d.fr)
def numsB (a : Ac) : Bool := inD a.start 0 131072 && inD a.fig 0 1073741824 && inD a.daily 0 100000 && inD a.stand 0 100000
def sizesB (a : Ac) : Bool := inD (a.ts.length : Int) 1 6 && decide (a.bs.length ≤ 12) && decide (a.ns.length ≤ 24) && decide (a.ds.length ≤ 4)
def acctB (a : Ac) : Bool := numsB a && sizesB a && pairsB trfOK a.ts && pairsB (dayOK a.start) a.bs && a.ns.all (noteOK a.start) && pairsB (dspOK a.start) a.ds

/-- Is there a note before this one of the same day, that came on the same day, and tells another figure? -/
def twin (n o : Nt) : Bool := (decide (o.day = n.day) && decide (o.came = n.came)) && decide (o.fig ≠ n.fig)
def twT (l : List Nt) : Nat → Bool
  | 0 => false
  | k + 1 => twT l k || match l[k]? with
    | some n => (l.take k).any (twin n)
    | none => false
def startE (a : Ac) : Int := if acctB a = false then 1 else if twT a.ns a.ns.length = true then 5 else 0

/-- Does a note come later than this one, or is it the same, and told before? -/
def outs (known : Int) (n : Nt) (i : Nat) (o : Nt) (k : Nat) : Bool := (decide (o.day = n.day) && decide (o.came ≤ known)) && (decide (n.came < o.came) || (decide (o.came = n.came) && decide (k < i)))
def cnts (l : List Nt) (known : Int) (i : Nat) : Bool := decide ((l.getD i default).came ≤ known) && !((List.range l.length).any fun k => outs known (l.getD i default) i (l.getD k default) k)
/-- The notes that count, of the first ones. -/
def cntT (l : List Nt) (known : Int) (k : Nat) : List Nt := ((List.range k).filter (cnts l known)).map fun i => l.getD i default
def cntL (l : List Nt) (known : Int) : List Nt := cntT l known l.length
theorem cntT_succ (l : List Nt) (known : Int) (k : Nat) : cntT l known (k + 1) = if cnts l known k = true then cntT l known k ++ [l.getD k default] else cntT l known k := by
  unfold cntT
  rw [List.range_succ, List.filter_append, List.map_append]
  split
  · rename_i h; rw [List.filter_cons, if_pos h]; rfl
  · rename_i h; rw [List.filter_cons, if_neg h]; simp
abbrev Pt := Int × Int
def ptLt (p q : Pt) : Bool := decide (p.1 < q.1)
def ptOf (n : Nt) : Pt := (n.day, n.fig)
/-- The points that are known on a day, in order. -/
def pts (a : Ac) (known : Int) : List Pt := isortE ptLt ((a.start, a.fig) :: (cntL a.ns known).map ptOf)
def ordF (f : Int) : List Pt → Bool
  | [] => true
  | p :: l => decide (f ≤ p.2) && ordF p.2 l
def ordB (a : Ac) (known : Int) : Bool := ordF 0 (pts a known)

/-- The place of the first point after a day; the last one's if there is none. -/
def aftI (l : List Pt) (day : Int) : Option Nat := l.findIdx? fun p => decide (day < p.1)
def hiI (l : List Pt) (day : Int) : Nat := match aftI l day with
  | some i => i
  | none => l.length - 1
def baI (l : List Pt) (day : Int) : Nat := match aftI l day with
  | some i => i - 1
  | none => l.length - 1
def ptAt (l : List Pt) (i : Nat) : Pt := l.getD i (0, 0)
/-- What the meter showed on a day. -/
def shw (a : Ac) (l : List Pt) (day : Int) : Int :=
  if l.length = 1 then a.fig + a.daily * (day - a.start)
  else (ptAt l (baI l day)).2 + (((ptAt l (hiI l day)).2 - (ptAt l (hiI l day - 1)).2) * (day - (ptAt l (baI l day)).1)).tdiv ((ptAt l (hiI l day)).1 - (ptAt l (hiI l day - 1)).1)

def uph (d : Dp) : Bool := decide (d.alw < max d.err (-d.err))
/-- What is taken off for a dispute. -/
def offD (a : Ac) (l : List Pt) (day : Int) (d : Dp) : Int :=
  if day ≤ d.fr then 0 else (shw a l (min d.to day) - shw a l d.fr) - (1000 * (shw a l (min d.to day) - shw a l d.fr)).tdiv (1000 + d.err)
/-- The disputes whose results are known, but for one, of the first ones. -/
def tellB (a : Ac) (known but : Int) (i : Nat) : Bool := decide ((a.ds.getD i default).day ≤ known) && decide ((i : Int) ≠ but)
def telT (a : Ac) (known but : Int) (k : Nat) : List Dp := ((List.range k).filter (tellB a known but)).map fun i => a.ds.getD i default
def tells (a : Ac) (known but : Int) : List Dp := telT a known but a.ds.length
theorem telT_succ (a : Ac) (known but : Int) (k : Nat) : telT a known but (k + 1) = if tellB a known but k = true then telT a known but k ++ [a.ds.getD k default] else telT a known but k := by
  unfold telT
  rw [List.range_succ, List.filter_append, List.map_append]
  split
  · rename_i h; rw [List.filter_cons, if_pos h]; rfl
  · rename_i h; rw [List.filter_cons, if_neg h]; simp
def tOff (a : Ac) (l : List Pt) (day : Int) (d : Dp) : Int := if uph d = true then offD a l day d else 0
def tFee (d : Dp) : Int := if uph d = true then 0 else d.fee
def usedO (a : Ac) (l : List Pt) (day : Int) (n : Int) (L : List Dp) : Int := L.foldl (fun n d => n - tOff a l day d) n
theorem usedO_snoc (a : Ac) (l : List Pt) (day : Int) (n : Int) (L : List Dp) (d : Dp) : usedO a l day n (L ++ [d]) = usedO a l day n L - tOff a l day d := by unfold usedO; rw [List.foldl_append]; rfl
def feeO (n : Int) (L : List Dp) : Int := L.foldl (fun n d => n + tFee d) n
theorem feeO_snoc (n : Int) (L : List Dp) (d : Dp) : feeO n (L ++ [d]) = feeO n L + tFee d := by unfold feeO; rw [List.foldl_append]; rfl
def used (a : Ac) (known but day : Int) : Int := usedO a (pts a known) day (shw a (pts a known) day - a.fig) (tells a known but)
/-- The days of a tariff up to a day. -/
def trFr (a : Ac) (i : Nat) : Int := max a.start (a.ts.getD i default).fr
def trTo (a : Ac) (day : Int) (i : Nat) : Int := match a.ts[i + 1]? with
  | some t => min day t.fr
  | none => day
def trCost (a : Ac) (known but day : Int) (i : Nat) : Int :=
  if trFr a i < trTo a day i then ((used a known but (trTo a day i) - used a known but (trFr a i)) * (a.ts.getD i default).pence).tdiv 1000 else 0
def costT (a : Ac) (known but day : Int) : Nat → Int
  | 0 => a.stand * (day - a.start)
  | k + 1 => costT a known but day k + trCost a known but day k
def cost (a : Ac) (known but day : Int) : Int := feeO (costT a known but day a.ts.length) (tells a known but)

def openE (a : Ac) (day known : Int) : Int :=
  if startE a ≠ 0 then startE a else if inD day a.start 131072 = false ∨ inD known 0 131072 = false then 2 else if ordB a known = false then 7 else 0
def usedR (a : Ac) (day known : Int) : Int × Int := if openE a day known = 0 then (used a known (-1) day, 0) else (0, openE a day known)
def costR (a : Ac) (day known : Int) : Int × Int := if openE a day known = 0 then (cost a known (-1) day, 0) else (0, openE a day known)

structure Bl where
  lit : Int
  pence : Int
  corr : Int
deriving DecidableEq, Inhabited
def bdAt (a : Ac) (i : Nat) : Int := a.bs.getD i 0
def litTo (a : Ac) : Nat → Int
  | 0 => 0
  | i + 1 => used a (bdAt a i) (-1) (bdAt a i)
def penTo (a : Ac) : Nat → Int
  | 0 => 0
  | i + 1 => cost a (bdAt a i) (-1) (bdAt a i)
def corAt (a : Ac) : Nat → Int
  | 0 => 0
  | i + 1 => cost a (bdAt a (i + 1)) (-1) (bdAt a i) - cost a (bdAt a i) (-1) (bdAt a i)
def blAt (a : Ac) (i : Nat) : Bl := ⟨litTo a (i + 1) - litTo a i, penTo a (i + 1) - penTo a i, corAt a i⟩
def bllsT (a : Ac) (k : Nat) : List Bl := (List.range k).map (blAt a)
def ordsB (a : Ac) (l : List Int) : Bool := l.all (ordB a)
def billsE (a : Ac) : Int := if startE a ≠ 0 then startE a else if ordsB a a.bs = false then 7 else 0
def billsR (a : Ac) : List Bl × Int := if billsE a = 0 then (bllsT a a.bs.length, 0) else ([], billsE a)
/-- How many bills there are up to a day. -/
def bUp (a : Ac) (day : Int) : Nat := match a.bs.findIdx? fun d => decide (day < d) with
  | some i => i
  | none => a.bs.length
def owedE (a : Ac) (day : Int) : Int := if openE a day day ≠ 0 then openE a day day else if ordsB a (a.bs.take (bUp a day)) = false then 7 else 0
def owedR (a : Ac) (day : Int) : Int × Int := if owedE a day = 0 then (cost a day (-1) day - penTo a (bUp a day), 0) else (0, owedE a day)
def dpAt (a : Ac) (i : Int) : Dp := a.ds.getD i.toNat default
def settleE (a : Ac) (i : Int) : Int := if startE a ≠ 0 then startE a else if inD i 0 ((a.ds.length : Int) - 1) = false then 2 else if ordB a (dpAt a i).day = false then 7 else 0
def settleR (a : Ac) (i : Int) : Int × Int := if settleE a i = 0 then (cost a (dpAt a i).day (-1) (dpAt a i).day - cost a (dpAt a i).day i (dpAt a i).day, 0) else (0, settleE a i)
end Go.Bi
namespace Go.Bi
open Go.Mw

structure Val (a : Ac) : Prop where
  start : 0 ≤ a.start ∧ a.start ≤ 131072
  fig : 0 ≤ a.fig ∧ a.fig ≤ 1073741824
  daily : 0 ≤ a.daily ∧ a.daily ≤ 100000
  stand : 0 ≤ a.stand ∧ a.stand ≤ 100000
  nts : 1 ≤ a.ts.length ∧ a.ts.length ≤ 6
  nbs : a.bs.length ≤ 12
  nns : a.ns.length ≤ 24
  nds : a.ds.length ≤ 4
  trf : ∀ (i : Nat) (t : Trf), a.ts[i]? = some t → (0 ≤ t.fr ∧ t.fr ≤ 131072) ∧ (0 ≤ t.pence ∧ t.pence ≤ 10000) ∧ (i = 0 → t.fr = 0) ∧ ∀ (j : Nat) (u : Trf), j + 1 = i → a.ts[j]? = some u → u.fr < t.fr
  bil : ∀ (i : Nat) (d : Int), a.bs[i]? = some d → (a.start < d ∧ d ≤ 131072) ∧ ∀ (j : Nat) (u : Int), j + 1 = i → a.bs[j]? = some u → u < d
  nte : ∀ n ∈ a.ns, (a.start < n.day ∧ n.day ≤ 131072) ∧ (n.day ≤ n.came ∧ n.came ≤ 131072) ∧ 0 ≤ n.fig ∧ n.fig ≤ 1073741824
  dsp : ∀ (i : Nat) (d : Dp), a.ds[i]? = some d → (a.start ≤ d.fr ∧ d.fr < d.to ∧ d.to ≤ d.day ∧ d.day ≤ 131072) ∧ (-500 ≤ d.err ∧ d.err ≤ 500) ∧ (0 ≤ d.alw ∧ d.alw ≤ 500) ∧ (0 ≤ d.fee ∧ d.fee ≤ 1000000) ∧ ∀ (j : Nat) (u : Dp), j + 1 = i → a.ds[j]? = some u → u.to ≤ d.fr

theorem prv_some {α : Type} {l : List α} {i j : Nat} {u : α} (h : j + 1 = i) (hu : l[j]? = some u) : prv l i = some u := by subst h; exact hu
theorem acct_val {a : Ac} (h : acctB a = true) : Val a := by
  unfold acctB at h
  simp only [Bool.and_eq_true, List.all_eq_true] at h
  obtain ⟨⟨⟨⟨⟨h1, h2⟩, h3⟩, h4⟩, h5⟩, h6⟩ := h
  unfold numsB at h1
  unfold sizesB at h2
  simp only [Bool.and_eq_true, inD_iff, decide_eq_true_eq] at h1 h2
  have g3 := (pairsT_iff (Nat.le_refl _)).1 h3
  have g4 := (pairsT_iff (Nat.le_refl _)).1 h4
  have g6 := (pairsT_iff (Nat.le_refl _)).1 h6
  refine ⟨h1.1.1.1, h1.1.1.2, h1.1.2, h1.2, by omega, h2.1.1.2, h2.1.2, h2.2, fun i t ht => ?_, fun i d hd => ?_, fun n hn => ?_, fun i d hd => ?_⟩
  · have := g3 i t (List.getElem?_eq_some_iff.1 ht).1 ht
    unfold trfOK at this
    simp only [Bool.and_eq_true, inD_iff] at this
    refine ⟨this.1.1, this.1.2, fun e => ?_, fun j u hj hu => ?_⟩
    · subst e
      have h := this.2
      simp only [prv] at h
      exact of_decide_eq_true h
    · rw [prv_some hj hu] at this
      exact of_decide_eq_true this.2
  · have := g4 i d (List.getElem?_eq_some_iff.1 hd).1 hd
    unfold dayOK at this
    simp only [Bool.and_eq_true, inD_iff] at this
    refine ⟨by omega, fun j u hj hu => ?_⟩
    rw [prv_some hj hu] at this
    exact of_decide_eq_true this.2
  · have := h5 n hn
    unfold noteOK at this
    simp only [Bool.and_eq_true, inD_iff] at this
    omega
  · have := g6 i d (List.getElem?_eq_some_iff.1 hd).1 hd
    unfold dspOK dspP dspQ at this
    simp only [Bool.and_eq_true, inD_iff] at this
    refine ⟨by omega, by omega, by omega, by omega, fun j u hj hu => ?_⟩
    rw [prv_some hj hu] at this
    exact of_decide_eq_true this.2

section perm
variable {α : Type}
theorem insE_perm (lt : α → α → Bool) (x : α) (l : List α) : (insE lt x l).Perm (x :: l) := by
  unfold insE
  have h := List.take_append_drop (scanE lt x l l.length) l
  refine ((List.perm_append_comm (l₁ := l.take (scanE lt x l l.length)) (l₂ := [x])).append_right _).trans ?_
  rw [List.append_assoc, h]
  exact List.Perm.refl _
theorem isortE_perm (lt : α → α → Bool) : ∀ l : List α, (isortE lt l).Perm l := by
  intro l
  induction l using snoc_ind with
  | h0 => exact List.Perm.refl _
  | h1 l x ih =>
    rw [isortE_snoc]
    exact (insE_perm lt x _).trans ((List.Perm.cons x ih).trans (List.perm_append_comm (l₁ := [x]) (l₂ := l)))
end perm
theorem ptLt_weak : Weak ptLt := by
  constructor <;> (intros; simp_all [ptLt]) <;> omega

theorem getD_of {α : Type} {l : List α} {i : Nat} {a d : α} (h : l[i]? = some a) : l.getD i d = a := by simp [List.getD, h]
theorem getD_mem {α : Type} {l : List α} {i : Nat} {d : α} (h : i < l.length) : l.getD i d ∈ l := by
  rw [getD_of (List.getElem?_eq_getElem h)]; exact List.getElem_mem h
theorem cnts_iff {l : List Nt} {known : Int} {i : Nat} : cnts l known i = true ↔ (l.getD i default).came ≤ known ∧ ∀ k, k < l.length → outs known (l.getD i default) i (l.getD k default) k = false := by
  unfold cnts
  rw [Bool.and_eq_true, decide_eq_true_eq, Bool.not_eq_true', List.any_eq_false]
  constructor
  · rintro ⟨h1, h2⟩
    exact ⟨h1, fun k hk => by simpa using h2 k (List.mem_range.2 hk)⟩
  · rintro ⟨h1, h2⟩
    exact ⟨h1, fun k hk => by simpa using h2 k (List.mem_range.1 hk)⟩
theorem cnts_uniq {l : List Nt} {known : Int} {i j : Nat} (hi : i < l.length) (hj : j < l.length) (h1 : cnts l known i = true) (h2 : cnts l known j = true) (hd : (l.getD i default).day = (l.getD j default).day) : i = j := by
  obtain ⟨a1, a2⟩ := cnts_iff.1 h1
  obtain ⟨b1, b2⟩ := cnts_iff.1 h2
  have e1 := a2 j hj
  have e2 := b2 i hi
  unfold outs at e1 e2
  simp only [Bool.and_eq_false_iff, Bool.or_eq_false_iff, decide_eq_false_iff_not] at e1 e2
  omega
theorem cntT_days (l : List Nt) (known : Int) : ∀ k, k ≤ l.length → ((cntT l known k).map (·.day)).Nodup ∧ ∀ n ∈ cntT l known k, ∃ i, i < k ∧ cnts l known i = true ∧ l.getD i default = n
  | 0, _ => ⟨by simp [cntT], fun n hn => by simp [cntT] at hn⟩
  | k + 1, hk => by
    obtain ⟨h1, h2⟩ := cntT_days l known k (by omega)
    rw [cntT_succ]
    split
    · rename_i hc
      refine ⟨?_, fun n hn => ?_⟩
      · rw [List.map_append, List.nodup_append]
        refine ⟨h1, by simp, fun d hd e he hde => ?_⟩
        obtain ⟨n, hn, rfl⟩ := List.mem_map.1 hd
        obtain ⟨i, hi, hci, rfl⟩ := h2 n hn
        simp only [List.map_cons, List.map_nil, List.mem_singleton] at he
        have := cnts_uniq (by omega) (by omega) hci hc (by omega)
        omega
      · rcases List.mem_append.1 hn with hn | hn
        · obtain ⟨i, hi, h⟩ := h2 n hn
          exact ⟨i, by omega, h⟩
        · exact ⟨k, by omega, hc, (List.mem_singleton.1 hn).symm⟩
    · exact ⟨h1, fun n hn => by obtain ⟨i, hi, h⟩ := h2 n hn; exact ⟨i, by omega, h⟩⟩
theorem cntL_mem {l : List Nt} {known : Int} {n : Nt} (h : n ∈ cntL l known) : n ∈ l ∧ n.came ≤ known := by
  obtain ⟨i, hi, hc, rfl⟩ := (cntT_days l known l.length (Nat.le_refl _)).2 n h
  exact ⟨getD_mem hi, (cnts_iff.1 hc).1⟩
theorem cntT_len (l : List Nt) (known : Int) : ∀ k, (cntT l known k).length ≤ k
  | 0 => by simp [cntT]
  | k + 1 => by
    have := cntT_len l known k
    rw [cntT_succ]
    split
    · simp; omega
    · omega

theorem pts_perm (a : Ac) (known : Int) : (pts a known).Perm ((a.start, a.fig) :: (cntL a.ns known).map ptOf) := isortE_perm _ _
theorem pts_len (a : Ac) (known : Int) : 1 ≤ (pts a known).length ∧ (pts a known).length ≤ a.ns.length + 1 := by
  rw [(pts_perm a known).length_eq]
  have := cntT_len a.ns known a.ns.length
  unfold cntL
  simp; omega
theorem pts_mem {a : Ac} (v : Val a) {known : Int} {p : Pt} (h : p ∈ pts a known) : p = (a.start, a.fig) ∨ (a.start < p.1 ∧ p.1 ≤ 131072 ∧ 0 ≤ p.2 ∧ p.2 ≤ 1073741824 ∧ p.1 ≤ known) := by
  rcases List.mem_cons.1 ((pts_perm a known).mem_iff.1 h) with h | h
  · exact .inl h
  · obtain ⟨n, hn, rfl⟩ := List.mem_map.1 h
    obtain ⟨h1, h2⟩ := cntL_mem hn
    have := v.nte n h1
    exact .inr ⟨this.1.1, this.1.2, this.2.2.1, this.2.2.2, by show n.day ≤ known; omega⟩
theorem pts_bnd {a : Ac} (v : Val a) {known : Int} {p : Pt} (h : p ∈ pts a known) : a.start ≤ p.1 ∧ p.1 ≤ 131072 ∧ 0 ≤ p.2 ∧ p.2 ≤ 1073741824 := by
  have := v.start
  have := v.fig
  rcases pts_mem v h with rfl | h
  · exact ⟨Int.le_refl _, by simp only; omega, by simp only; omega, by simp only; omega⟩
  · omega
theorem pts_strict {a : Ac} (v : Val a) (known : Int) : (pts a known).Pairwise fun p q => p.1 < q.1 := by
  have h1 : InO ptLt (pts a known) := ino_sort ptLt_weak _
  have h2 : ((pts a known).map (·.1)).Nodup := by
    rw [((pts_perm a known).map _).nodup_iff, List.map_cons, List.map_map]
    have h3 := (cntT_days a.ns known a.ns.length (Nat.le_refl _)).1
    refine List.nodup_cons.2 ⟨fun hm => ?_, h3⟩
    obtain ⟨n, hn, he⟩ := List.mem_map.1 hm
    have h4 := v.nte n (cntL_mem hn).1
    have : n.day = a.start := he
    omega
  unfold InO at h1
  unfold List.Nodup at h2
  rw [List.pairwise_map] at h2
  rw [List.pairwise_iff_getElem] at *
  intro i j hi hj hij
  have e1 := h1 i j hi hj hij
  have e2 := h2 i j hi hj hij
  unfold ptLt at e1
  have := of_decide_eq_false e1
  omega
theorem pts_head {a : Ac} (v : Val a) (known : Int) : (pts a known)[0]? = some (a.start, a.fig) := by
  have hl := pts_len a known
  have hm : (a.start, a.fig) ∈ pts a known := (pts_perm a known).mem_iff.2 List.mem_cons_self
  obtain ⟨i, hi⟩ := List.getElem?_of_mem hm
  cases i with
  | zero => exact hi
  | succ i =>
    have hil := (List.getElem?_eq_some_iff.1 hi).1
    have hs := pts_strict v known
    rw [List.pairwise_iff_getElem] at hs
    have h1 := hs 0 (i + 1) (by omega) hil (by omega)
    rw [(List.getElem?_eq_some_iff.1 hi).2] at h1
    have h2 := (pts_bnd v (known := known) (List.getElem_mem (by omega : 0 < (pts a known).length))).1
    simp only at h1
    omega

/-! ### What the meter showed -/
theorem ptAt_get {l : List Pt} {i : Nat} (h : i < l.length) : l[i]? = some (ptAt l i) := by
  unfold ptAt; rw [getD_of (List.getElem?_eq_getElem h), List.getElem?_eq_getElem h]
theorem ptAt_mem {l : List Pt} {i : Nat} (h : i < l.length) : ptAt l i ∈ l := List.mem_of_getElem? (ptAt_get h)
structure Rise (a : Ac) (l : List Pt) : Prop where
  len : 1 ≤ l.length
  hd : ptAt l 0 = (a.start, a.fig)
  day : ∀ i j, i < j → j < l.length → (ptAt l i).1 < (ptAt l j).1
  fig : ∀ i j, i ≤ j → j < l.length → (ptAt l i).2 ≤ (ptAt l j).2
  bnd : ∀ i, i < l.length → a.start ≤ (ptAt l i).1 ∧ (ptAt l i).1 ≤ 131072 ∧ 0 ≤ (ptAt l i).2 ∧ (ptAt l i).2 ≤ 1073741824
theorem ordF_le : ∀ {l : List Pt} {f : Int}, ordF f l = true → ∀ p ∈ l, f ≤ p.2
  | [], _, _ => fun p hp => by cases hp
  | q :: l, f, h => fun p hp => by
    simp only [ordF, Bool.and_eq_true, decide_eq_true_eq] at h
    rcases List.mem_cons.1 hp with rfl | hp
    · exact h.1
    · have := ordF_le h.2 p hp; omega
theorem ordF_pair : ∀ {l : List Pt} {f : Int}, ordF f l = true → l.Pairwise fun p q => p.2 ≤ q.2
  | [], _, _ => List.Pairwise.nil
  | q :: l, f, h => by
    simp only [ordF, Bool.and_eq_true, decide_eq_true_eq] at h
    exact List.pairwise_cons.2 ⟨fun p hp => ordF_le h.2 p hp, ordF_pair h.2⟩
theorem rise_of {a : Ac} (v : Val a) {known : Int} (h : ordB a known = true) : Rise a (pts a known) := by
  have hl := pts_len a known
  have hs := pts_strict v known
  have hf := ordF_pair h
  rw [List.pairwise_iff_getElem] at hs hf
  have e : ∀ i (hi : i < (pts a known).length), ptAt (pts a known) i = (pts a known)[i] := fun i hi => by
    have := ptAt_get hi
    rw [List.getElem?_eq_getElem hi] at this
    exact (Option.some.inj this).symm
  refine ⟨hl.1, ?_, fun i j hij hj => ?_, fun i j hij hj => ?_, fun i hi => pts_bnd v (ptAt_mem hi)⟩
  · have := pts_head v known
    rw [ptAt_get (by omega)] at this
    exact Option.some.inj this
  · rw [e i (by omega), e j hj]; exact hs i j (by omega) hj hij
  · rcases Nat.lt_or_eq_of_le hij with h1 | rfl
    · rw [e i (by omega), e j hj]; exact hf i j (by omega) hj h1
    · exact Int.le_refl _

theorem aft_some {l : List Pt} {day : Int} {i : Nat} (h : aftI l day = some i) : i < l.length ∧ day < (ptAt l i).1 ∧ ∀ j, j < i → (ptAt l j).1 ≤ day := by
  unfold aftI at h
  obtain ⟨hi, h1, h2⟩ := List.findIdx?_eq_some_iff_getElem.1 h
  have e : ∀ j (hj : j < l.length), ptAt l j = l[j] := fun j hj => by
    have := ptAt_get hj
    rw [List.getElem?_eq_getElem hj] at this
    exact (Option.some.inj this).symm
  refine ⟨hi, by rw [e i hi]; exact of_decide_eq_true h1, fun j hj => ?_⟩
  have := h2 j hj
  rw [e j (by omega)]
  simp only [decide_eq_true_eq] at this
  omega
theorem aft_none {l : List Pt} {day : Int} (h : aftI l day = none) : ∀ j, j < l.length → (ptAt l j).1 ≤ day := by
  unfold aftI at h
  rw [List.findIdx?_eq_none_iff] at h
  intro j hj
  have := h _ (ptAt_mem hj)
  simp only [decide_eq_false_iff_not] at this
  omega
/-- Between which points a day is. -/
theorem base_facts {a : Ac} {l : List Pt} (r : Rise a l) (hl : l.length ≠ 1) {day : Int} (hd : a.start ≤ day) :
    1 ≤ hiI l day ∧ hiI l day < l.length ∧ (baI l day = hiI l day - 1 ∨ baI l day = hiI l day) ∧ (ptAt l (baI l day)).1 ≤ day ∧ (baI l day = hiI l day - 1 → day < (ptAt l (hiI l day)).1) ∧ (baI l day = hiI l day → hiI l day = l.length - 1 ∧ aftI l day = none) := by
  have h1 := r.len
  unfold hiI baI
  cases h : aftI l day with
  | none =>
    have := aft_none h (l.length - 1) (by omega)
    exact ⟨by simp only; omega, by simp only; omega, .inr rfl, this, fun e => by simp only at e; omega, fun _ => ⟨rfl, rfl⟩⟩
  | some i =>
    obtain ⟨g1, g2, g3⟩ := aft_some h
    have hi0 : i ≠ 0 := fun e => by
      subst e
      rw [r.hd] at g2
      simp only at g2
      omega
    exact ⟨by simp only; omega, g1, .inl rfl, g3 (i - 1) (by omega), fun _ => g2, fun e => by simp only at e; omega⟩
theorem tdiv_bnd {n d : Int} (hn : 0 ≤ n) (hd : 0 < d) : 0 ≤ n.tdiv d ∧ n.tdiv d ≤ n := by
  rw [Int.tdiv_eq_ediv_of_nonneg hn]
  exact ⟨Int.ediv_nonneg hn (by omega), Int.ediv_le_self d hn⟩
theorem mul_bnd {x y X Y : Int} (hx : 0 ≤ x ∧ x ≤ X) (hy : 0 ≤ y ∧ y ≤ Y) : 0 ≤ x * y ∧ x * y ≤ X * Y :=
  ⟨Int.mul_nonneg hx.1 hy.1, Int.mul_le_mul hx.2 hy.2 hy.1 (by omega)⟩
/-- The parts of what a meter showed are small. -/
theorem shw_parts {a : Ac} {l : List Pt} (v : Val a) (r : Rise a l) (hl : l.length ≠ 1) {day : Int} (hd : a.start ≤ day ∧ day ≤ 131072) :
    let p := ptAt l (hiI l day - 1); let q := ptAt l (hiI l day); let b := ptAt l (baI l day)
    p.1 < q.1 ∧ (0 ≤ q.2 - p.2 ∧ q.2 - p.2 ≤ 1073741824) ∧ (0 ≤ day - b.1 ∧ day - b.1 ≤ 131072) ∧ (0 ≤ (q.2 - p.2) * (day - b.1) ∧ (q.2 - p.2) * (day - b.1) ≤ 140737488355328) ∧ (a.fig ≤ b.2 ∧ b.2 ≤ 1073741824) ∧
    (0 ≤ ((q.2 - p.2) * (day - b.1)).tdiv (q.1 - p.1) ∧ ((q.2 - p.2) * (day - b.1)).tdiv (q.1 - p.1) ≤ 140737488355328) := by
  obtain ⟨h1, h2, h3, h4, _⟩ := base_facts r hl hd.1
  have hst := v.start
  have hb : baI l day < l.length := by rcases h3 with h | h <;> omega
  have d1 := r.day (hiI l day - 1) (hiI l day) (by omega) h2
  have f1 := r.fig (hiI l day - 1) (hiI l day) (by omega) h2
  have b1 := r.bnd _ h2
  have b2 := r.bnd (hiI l day - 1) (by omega)
  have b3 := r.bnd _ hb
  have f0 := r.fig 0 _ (Nat.zero_le _) hb
  rw [r.hd] at f0
  have m := mul_bnd (x := (ptAt l (hiI l day)).2 - (ptAt l (hiI l day - 1)).2) (y := day - (ptAt l (baI l day)).1) (X := 1073741824) (Y := 131072) (by omega) (by omega)
  have t := tdiv_bnd (d := (ptAt l (hiI l day)).1 - (ptAt l (hiI l day - 1)).1) m.1 (by omega)
  simp only at f0
  refine ⟨d1, by omega, by omega, ⟨m.1, by omega⟩, by omega, t.1, by omega⟩
theorem shw_bnd {a : Ac} {l : List Pt} (v : Val a) (r : Rise a l) {day : Int} (hd : a.start ≤ day ∧ day ≤ 131072) : a.fig ≤ shw a l day ∧ shw a l day ≤ 150000000000000 := by
  have := v.fig
  have hst := v.start
  unfold shw
  split
  · have m := mul_bnd (x := a.daily) (y := day - a.start) (X := 100000) (Y := 131072) v.daily (by omega)
    omega
  · rename_i hl
    have := shw_parts v r hl hd
    simp only at this
    omega
end Go.Bi
namespace Go.Bi
open Go.Mw

theorem tdiv_mono {a b d : Int} (ha : 0 ≤ a) (hab : a ≤ b) (hd : 0 < d) : a.tdiv d ≤ b.tdiv d := by
  rw [Int.tdiv_eq_ediv_of_nonneg ha, Int.tdiv_eq_ediv_of_nonneg (by omega)]
  exact Int.ediv_le_ediv hd hab
theorem hi_mono {l : List Pt} {d1 d2 : Int} (h : d1 ≤ d2) : aftI l d2 = none ∨ ∃ i j, aftI l d1 = some i ∧ aftI l d2 = some j ∧ i ≤ j := by
  cases h2 : aftI l d2 with
  | none => exact .inl rfl
  | some j =>
    obtain ⟨g1, g2, g3⟩ := aft_some h2
    cases h1 : aftI l d1 with
    | none => have := aft_none h1 j g1; omega
    | some i =>
      obtain ⟨k1, k2, k3⟩ := aft_some h1
      refine .inr ⟨i, j, rfl, rfl, Classical.byContradiction fun hc => ?_⟩
      have := k3 j (by omega)
      omega
theorem shw_many {a : Ac} {l : List Pt} (hl : l.length ≠ 1) (day : Int) : shw a l day = (ptAt l (baI l day)).2 + (((ptAt l (hiI l day)).2 - (ptAt l (hiI l day - 1)).2) * (day - (ptAt l (baI l day)).1)).tdiv ((ptAt l (hiI l day)).1 - (ptAt l (hiI l day - 1)).1) := if_neg hl
/-- Between two points it shows no more than at the later one. -/
theorem shw_in {a : Ac} {l : List Pt} (v : Val a) (r : Rise a l) (hl : l.length ≠ 1) {day : Int} (hd : a.start ≤ day ∧ day ≤ 131072) {i : Nat} (hi : aftI l day = some i) : shw a l day ≤ (ptAt l i).2 := by
  obtain ⟨g1, g2, g3⟩ := aft_some hi
  have hp := shw_parts v r hl hd
  have hb := base_facts r hl hd.1
  have eh : hiI l day = i := by unfold hiI; rw [hi]
  have eb : baI l day = i - 1 := by unfold baI; rw [hi]
  simp only at hp
  rw [shw_many hl]
  rw [eh, eb] at hp ⊢
  obtain ⟨p1, p2, p3, p4, p5, p6⟩ := hp
  have h1 : ((ptAt l i).2 - (ptAt l (i - 1)).2) * (day - (ptAt l (i - 1)).1) ≤ ((ptAt l i).2 - (ptAt l (i - 1)).2) * ((ptAt l i).1 - (ptAt l (i - 1)).1) := Int.mul_le_mul_of_nonneg_left (by omega) (by omega)
  have h2 := tdiv_mono p4.1 h1 (by omega : 0 < (ptAt l i).1 - (ptAt l (i - 1)).1)
  rw [Int.mul_tdiv_cancel _ (by omega)] at h2
  omega
theorem shw_base {a : Ac} {l : List Pt} (v : Val a) (r : Rise a l) (hl : l.length ≠ 1) {day : Int} (hd : a.start ≤ day ∧ day ≤ 131072) : (ptAt l (baI l day)).2 ≤ shw a l day := by
  have hp := shw_parts v r hl hd
  simp only at hp
  rw [shw_many hl]
  omega
theorem shw_same {a : Ac} {l : List Pt} (v : Val a) (r : Rise a l) (hl : l.length ≠ 1) {d1 d2 : Int} (h1 : a.start ≤ d1) (h : d1 ≤ d2) (h2 : d2 ≤ 131072) (e : aftI l d1 = aftI l d2) : shw a l d1 ≤ shw a l d2 := by
  have hp := shw_parts v r hl (day := d1) ⟨h1, by omega⟩
  have hq := shw_parts v r hl (day := d2) ⟨by omega, h2⟩
  have eh : hiI l d1 = hiI l d2 := by unfold hiI; rw [e]
  have eb : baI l d1 = baI l d2 := by unfold baI; rw [e]
  simp only at hp hq
  rw [shw_many hl, shw_many hl]
  rw [eh, eb] at hp ⊢
  have h3 : ((ptAt l (hiI l d2)).2 - (ptAt l (hiI l d2 - 1)).2) * (d1 - (ptAt l (baI l d2)).1) ≤ ((ptAt l (hiI l d2)).2 - (ptAt l (hiI l d2 - 1)).2) * (d2 - (ptAt l (baI l d2)).1) := Int.mul_le_mul_of_nonneg_left (by omega) (by omega)
  have h4 := tdiv_mono hp.2.2.2.1.1 h3 (by omega : 0 < (ptAt l (hiI l d2)).1 - (ptAt l (hiI l d2 - 1)).1)
  omega
theorem shw_mono {a : Ac} {l : List Pt} (v : Val a) (r : Rise a l) {d1 d2 : Int} (h1 : a.start ≤ d1) (h : d1 ≤ d2) (h2 : d2 ≤ 131072) : shw a l d1 ≤ shw a l d2 := by
  by_cases hl : l.length = 1
  · unfold shw
    rw [if_pos hl, if_pos hl]
    have := Int.mul_le_mul_of_nonneg_left (c := a.daily) (a := d1 - a.start) (b := d2 - a.start) (by omega) v.daily.1
    omega
  · have hr := r.len
    have g1 : a.start ≤ d1 ∧ d1 ≤ 131072 := ⟨h1, by omega⟩
    have g2 : a.start ≤ d2 ∧ d2 ≤ 131072 := ⟨by omega, h2⟩
    have b2 := shw_base v r hl g2
    rcases hi_mono (l := l) h with hn | ⟨i, j, hi, hj, hij⟩
    · cases hc : aftI l d1 with
      | none => exact shw_same v r hl h1 h h2 (hc.trans hn.symm)
      | some i =>
        have g3 := shw_in v r hl g1 hc
        have e : baI l d2 = l.length - 1 := by unfold baI; rw [hn]
        rw [e] at b2
        have := r.fig i (l.length - 1) (by have := (aft_some hc).1; omega) (by omega)
        omega
    · by_cases e : i = j
      · subst e
        exact shw_same v r hl h1 h h2 (hi.trans hj.symm)
      · have g3 := shw_in v r hl g1 hi
        have e : baI l d2 = j - 1 := by unfold baI; rw [hj]
        rw [e] at b2
        have := r.fig i (j - 1) (by omega) (by have := (aft_some hj).1; omega)
        omega

/-! ### Disputes -/
/-- What was shown of the days of a dispute. -/
def xD (a : Ac) (l : List Pt) (day : Int) (d : Dp) : Int := if day ≤ d.fr then 0 else shw a l (min d.to day) - shw a l d.fr
def yD (d : Dp) (x : Int) : Int := (1000 * x).tdiv (1000 + d.err)
theorem offD_xy (a : Ac) (l : List Pt) (day : Int) (d : Dp) : offD a l day d = xD a l day d - yD d (xD a l day d) := by
  unfold offD xD yD
  split <;> simp
theorem yD_mono {d : Dp} (he : -500 ≤ d.err) {x y : Int} (hx : 0 ≤ x) (hxy : x ≤ y) : yD d x ≤ yD d y ∧ yD d y - yD d x ≤ 2 * (y - x) := by
  unfold yD
  have hd : 0 < 1000 + d.err := by omega
  refine ⟨tdiv_mono (by omega) (by omega) hd, ?_⟩
  rw [Int.tdiv_eq_ediv_of_nonneg (by omega), Int.tdiv_eq_ediv_of_nonneg (by omega)]
  have h1 : 1000 * y ≤ 1000 * x + (1000 + d.err) * (2 * (y - x)) := by
    have : 500 * (2 * (y - x)) ≤ (1000 + d.err) * (2 * (y - x)) := Int.mul_le_mul_of_nonneg_right (by omega) (by omega)
    omega
  have h2 := Int.ediv_le_ediv hd h1
  rw [Int.add_mul_ediv_left _ _ (by omega)] at h2
  omega
theorem yD_zero (d : Dp) : yD d 0 = 0 := by unfold yD; simp
/-- What was shown up to a day, as far as it lies before another one. -/
theorem phi {f : Int → Int} {S T F G : Int} (hf : ∀ x y, S ≤ x → x ≤ y → y ≤ 131072 → f x ≤ f y) (h1 : S ≤ T) (h2 : T ≤ F) (h3 : F < G) (h4 : G ≤ 131072) {d1 d2 : Int} (k1 : S ≤ d1) (k2 : d1 ≤ d2) (k3 : d2 ≤ 131072) :
    (f (min d2 T) - f (min d1 T)) + ((if d2 ≤ F then 0 else f (min G d2) - f F) - (if d1 ≤ F then 0 else f (min G d1) - f F)) ≤ f (min d2 G) - f (min d1 G) := by
  have a1 := hf d1 d2 k1 k2 k3
  have m : ∀ x y : Int, x ≤ y → min x y = x := fun x y h => by omega
  have m' : ∀ x y : Int, y ≤ x → min x y = y := fun x y h => by omega
  by_cases c1 : d1 ≤ T
  · rw [m d1 T c1, if_pos (by omega : d1 ≤ F), m d1 G (by omega)]
    by_cases c2 : d2 ≤ T
    · rw [m d2 T c2, if_pos (by omega : d2 ≤ F), m d2 G (by omega)]; omega
    · rw [m' d2 T (by omega)]
      by_cases c3 : d2 ≤ F
      · rw [if_pos c3, m d2 G (by omega)]
        have := hf T d2 h1 (by omega) k3
        omega
      · rw [if_neg c3]
        have t1 := hf T F h1 h2 (by omega)
        by_cases c4 : d2 ≤ G
        · rw [m' G d2 c4, m d2 G c4]; omega
        · rw [m G d2 (by omega), m' d2 G (by omega)]; omega
  · rw [m' d1 T (by omega), m' d2 T (by omega)]
    by_cases c2 : d1 ≤ F
    · rw [if_pos c2, m d1 G (by omega)]
      by_cases c3 : d2 ≤ F
      · rw [if_pos c3, m d2 G (by omega)]; omega
      · rw [if_neg c3]
        have t1 := hf d1 F k1 c2 (by omega)
        by_cases c4 : d2 ≤ G
        · rw [m' G d2 c4, m d2 G c4]; omega
        · rw [m G d2 (by omega), m' d2 G (by omega)]; omega
    · rw [if_neg c2, if_neg (by omega : ¬ d2 ≤ F)]
      have e : ∀ x : Int, min G x = min x G := fun x => by omega
      rw [e, e]; omega
theorem usedO_sum (a : Ac) (l : List Pt) (day : Int) : ∀ (L : List Dp) (n : Int), usedO a l day n L = n - (L.map (tOff a l day)).sum
  | [], n => by simp [usedO]
  | d :: L, n => by
    have : usedO a l day n (d :: L) = usedO a l day (n - tOff a l day d) L := rfl
    rw [this, usedO_sum a l day L, List.map_cons, List.sum_cons]; omega
/-- The disputes that are told, in order. -/
theorem telT_facts {a : Ac} (v : Val a) (known but : Int) : ∀ k, k ≤ a.ds.length → (telT a known but k).Pairwise (fun d e => d.to ≤ e.fr) ∧ (∀ d ∈ telT a known but k, d ∈ a.ds ∧ ∀ i e, k ≤ i → a.ds[i]? = some e → d.to ≤ e.fr)
  | 0, _ => ⟨by simp [telT], fun d hd => by simp [telT] at hd⟩
  | k + 1, hk => by
    obtain ⟨h1, h2⟩ := telT_facts v known but k (by omega)
    have hkg := List.getElem?_eq_getElem (show k < a.ds.length by omega)
    have hkd := getD_of (d := (default : Dp)) hkg
    have step : ∀ (i : Nat) (e : Dp) (x : Int), k < i → a.ds[i]? = some e → (∀ u, a.ds[k]? = some u → x ≤ u.to) → x ≤ e.fr := fun i => by
      induction i with
      | zero => intro e x h; omega
      | succ i ih =>
        intro e x hi he hx
        by_cases hc : k = i
        · subst hc
          have := (v.dsp _ e he).2.2.2.2 k _ rfl hkg
          have := hx _ hkg
          omega
        · obtain ⟨u, hu⟩ : ∃ u, a.ds[i]? = some u := ⟨_, List.getElem?_eq_getElem (by have := (List.getElem?_eq_some_iff.1 he).1; omega)⟩
          have g1 := ih u x (by omega) hu hx
          have g2 := (v.dsp _ u hu).1
          have g3 := (v.dsp _ e he).2.2.2.2 i u rfl hu
          omega
    rw [telT_succ, hkd]
    split
    · refine ⟨List.pairwise_append.2 ⟨h1, List.pairwise_singleton _ _, fun d hd e he => ?_⟩, fun d hd => ?_⟩
      · rw [List.mem_singleton.1 he]
        exact (h2 d hd).2 k _ (Nat.le_refl _) hkg
      · rcases List.mem_append.1 hd with hd | hd
        · exact ⟨(h2 d hd).1, fun i e hi he => (h2 d hd).2 i e (by omega) he⟩
        · rw [List.mem_singleton.1 hd]
          refine ⟨List.getElem_mem _, fun i e hi he => step i e _ (by omega) he fun u hu => ?_⟩
          rw [hkg] at hu
          cases hu; exact Int.le_refl _
    · exact ⟨h1, fun d hd => ⟨(h2 d hd).1, fun i e hi he => (h2 d hd).2 i e (by omega) he⟩⟩
theorem mem_val {a : Ac} (v : Val a) {d : Dp} (h : d ∈ a.ds) : (a.start ≤ d.fr ∧ d.fr < d.to ∧ d.to ≤ d.day ∧ d.day ≤ 131072) ∧ (-500 ≤ d.err ∧ d.err ≤ 500) ∧ (0 ≤ d.alw ∧ d.alw ≤ 500) ∧ (0 ≤ d.fee ∧ d.fee ≤ 1000000) := by
  obtain ⟨i, hi⟩ := List.getElem?_of_mem h
  have := v.dsp i d hi
  exact ⟨this.1, this.2.1, this.2.2.1, this.2.2.2.1⟩
theorem xD_step {a : Ac} {l : List Pt} (v : Val a) (r : Rise a l) {d : Dp} (hd : a.start ≤ d.fr ∧ d.fr < d.to ∧ d.to ≤ 131072) {d1 d2 : Int} (k1 : a.start ≤ d1) (k2 : d1 ≤ d2) (k3 : d2 ≤ 131072) : 0 ≤ xD a l d1 d ∧ xD a l d1 d ≤ xD a l d2 d := by
  have hf := fun x y h1 h2 h3 => shw_mono v r (d1 := x) (d2 := y) h1 h2 h3
  unfold xD
  by_cases c1 : d1 ≤ d.fr
  · rw [if_pos c1]
    refine ⟨Int.le_refl _, ?_⟩
    split
    · exact Int.le_refl _
    · have := hf d.fr (min d.to d2) hd.1 (by omega) (by omega)
      omega
  · rw [if_neg c1, if_neg (by omega)]
    have g1 := hf d.fr (min d.to d1) hd.1 (by omega) (by omega)
    have g2 := hf (min d.to d1) (min d.to d2) (by omega) (by omega) (by omega)
    omega
theorem tOff_step {a : Ac} {l : List Pt} (v : Val a) (r : Rise a l) {d : Dp} (hm : d ∈ a.ds) {d1 d2 : Int} (k1 : a.start ≤ d1) (k2 : d1 ≤ d2) (k3 : d2 ≤ 131072) :
    -(xD a l d2 d - xD a l d1 d) ≤ tOff a l d2 d - tOff a l d1 d ∧ tOff a l d2 d - tOff a l d1 d ≤ xD a l d2 d - xD a l d1 d := by
  have hv := mem_val v hm
  obtain ⟨x1, x2⟩ := xD_step v r (d := d) (by omega) k1 k2 k3
  have y := yD_mono (d := d) hv.2.1.1 x1 x2
  unfold tOff
  split
  · rw [offD_xy, offD_xy]; omega
  · omega
/-- All that was shown of the days of disputes is no more than what was shown. -/
theorem sum_step {a : Ac} {l : List Pt} (v : Val a) (r : Rise a l) {d1 d2 : Int} (k1 : a.start ≤ d1) (k2 : d1 ≤ d2) (k3 : d2 ≤ 131072) : ∀ (L : List Dp) (T : Int), a.start ≤ T → T ≤ 131072 → (∀ d ∈ L, d ∈ a.ds ∧ T ≤ d.fr) → L.Pairwise (fun d e => d.to ≤ e.fr) →
    (shw a l (min d2 T) - shw a l (min d1 T)) + ((L.map (xD a l d2)).sum - (L.map (xD a l d1)).sum) ≤ shw a l d2 - shw a l d1
  | [], T, h1, h2, _, _ => by
    have := shw_mono v r (d1 := d1) (d2 := d2) k1 k2 k3
    have hf := fun x y h1 h2 h3 => shw_mono v r (d1 := x) (d2 := y) h1 h2 h3
    simp only [List.map_nil, List.sum_nil, Int.sub_self, Int.add_zero]
    by_cases c1 : d1 ≤ T
    · have e1 : min d1 T = d1 := by omega
      have g := hf (min d2 T) d2 (by omega) (by omega) k3
      rw [e1]; omega
    · have e1 : min d1 T = T := by omega
      have e2 : min d2 T = T := by omega
      rw [e1, e2]; omega
  | d :: L, T, h1, h2, hL, hp => by
    obtain ⟨hm, hT⟩ := hL d List.mem_cons_self
    have hv := mem_val v hm
    rw [List.pairwise_cons] at hp
    have ih := sum_step v r k1 k2 k3 L d.to (by omega) (by omega) (fun e he => ⟨(hL e (List.mem_cons_of_mem _ he)).1, hp.1 e he⟩) hp.2
    have hphi := phi (f := shw a l) (S := a.start) (T := T) (F := d.fr) (G := d.to) (fun x y h1 h2 h3 => shw_mono v r h1 h2 h3) h1 hT (by omega) (by omega) k1 k2 k3
    simp only [List.map_cons, List.sum_cons]
    have e1 : xD a l d2 d = if d2 ≤ d.fr then 0 else shw a l (min d.to d2) - shw a l d.fr := rfl
    have e2 : xD a l d1 d = if d1 ≤ d.fr then 0 else shw a l (min d.to d1) - shw a l d.fr := rfl
    rw [e1, e2]
    omega
theorem sums_off {a : Ac} {l : List Pt} (v : Val a) (r : Rise a l) {d1 d2 : Int} (k1 : a.start ≤ d1) (k2 : d1 ≤ d2) (k3 : d2 ≤ 131072) : ∀ L : List Dp, (∀ d ∈ L, d ∈ a.ds) →
    -((L.map (xD a l d2)).sum - (L.map (xD a l d1)).sum) ≤ (L.map (tOff a l d2)).sum - (L.map (tOff a l d1)).sum ∧ (L.map (tOff a l d2)).sum - (L.map (tOff a l d1)).sum ≤ (L.map (xD a l d2)).sum - (L.map (xD a l d1)).sum
  | [], _ => by simp
  | d :: L, h => by
    have ih := sums_off v r k1 k2 k3 L fun e he => h e (List.mem_cons_of_mem _ he)
    have := tOff_step v r (h d List.mem_cons_self) k1 k2 k3
    simp only [List.map_cons, List.sum_cons]
    omega
/-- Nobody uses less than nothing, nor more than twice what was shown. -/
theorem used_step {a : Ac} (v : Val a) {known but : Int} (ho : ordB a known = true) {d1 d2 : Int} (k1 : a.start ≤ d1) (k2 : d1 ≤ d2) (k3 : d2 ≤ 131072) :
    used a known but d1 ≤ used a known but d2 ∧ used a known but d2 - used a known but d1 ≤ 2 * (shw a (pts a known) d2 - shw a (pts a known) d1) := by
  have r := rise_of v ho
  obtain ⟨t1, t2⟩ := telT_facts v known but a.ds.length (Nat.le_refl _)
  have hst := v.start
  have s1 := sum_step v r k1 k2 k3 (tells a known but) a.start (Int.le_refl _) (by omega) (fun d hd => ⟨(t2 d hd).1, (mem_val v (t2 d hd).1).1.1⟩) t1
  have s2 := sums_off v r k1 k2 k3 (tells a known but) fun d hd => (t2 d hd).1
  have e1 : min d1 a.start = a.start := by omega
  have e2 : min d2 a.start = a.start := by omega
  rw [e1, e2] at s1
  have m := shw_mono v r k1 k2 k3
  unfold used
  rw [usedO_sum, usedO_sum]
  omega
theorem used_start {a : Ac} (v : Val a) {known but : Int} (ho : ordB a known = true) : used a known but a.start = 0 := by
  have r := rise_of v ho
  have hst := v.start
  obtain ⟨t1, t2⟩ := telT_facts v known but a.ds.length (Nat.le_refl _)
  unfold used
  rw [usedO_sum]
  have hz : ∀ L : List Dp, (∀ d ∈ L, d ∈ a.ds) → (L.map (tOff a (pts a known) a.start)).sum = 0 := fun L => by
    induction L with
    | nil => intro _; rfl
    | cons d L ih =>
      intro h
      have hv := mem_val v (h d List.mem_cons_self)
      have e : tOff a (pts a known) a.start d = 0 := by
        unfold tOff offD
        rw [if_pos hv.1.1]
        split <;> rfl
      rw [List.map_cons, List.sum_cons, e, ih fun e he => h e (List.mem_cons_of_mem _ he)]; rfl
  have hs : shw a (pts a known) a.start = a.fig := by
    by_cases hl : (pts a known).length = 1
    · unfold shw; rw [if_pos hl]; simp
    · obtain ⟨h1, h2, h3, h4, h5, h6⟩ := base_facts r hl (Int.le_refl a.start)
      have hb : baI (pts a known) a.start < (pts a known).length := by rcases h3 with h | h <;> omega
      have h0 : baI (pts a known) a.start = 0 := by
        refine Classical.byContradiction fun hc => ?_
        have := r.day 0 _ (by omega : 0 < baI (pts a known) a.start) hb
        rw [r.hd] at this
        simp only at this
        omega
      rw [shw_many hl, h0, r.hd]
      simp
  rw [hs, hz (tells a known but) fun d hd => (t2 d hd).1]
  omega
theorem used_bnd {a : Ac} (v : Val a) {known but : Int} (ho : ordB a known = true) {day : Int} (hd : a.start ≤ day ∧ day ≤ 131072) : 0 ≤ used a known but day ∧ used a known but day ≤ 300000000000000 := by
  have h := used_step v (but := but) ho (Int.le_refl a.start) hd.1 hd.2
  have hst := v.start
  rw [used_start v ho] at h
  have b1 := shw_bnd v (rise_of v ho) hd
  have b2 := shw_bnd v (rise_of v ho) (day := a.start) ⟨Int.le_refl _, by omega⟩
  have := v.fig
  omega
end Go.Bi
namespace Go.Bi
open Go.Mw

/-- A map of notes by their days, with one note more. -/
def setN (n : Nt) : List Nt → List Nt
  | [] => [n]
  | o :: r => if o.day = n.day then n :: r else o :: setN n r
def findN (d : Int) (m : List Nt) : Option Nt := m.find? fun o => decide (o.day = d)
def lateB (known : Int) (m : List Nt) (n : Nt) : Bool := decide (n.came ≤ known) && match findN n.day m with
  | none => true
  | some o => decide (o.came < n.came)
def lastT (l : List Nt) (known : Int) : Nat → List Nt
  | 0 => []
  | k + 1 => if lateB known (lastT l known k) (l.getD k default) = true then setN (l.getD k default) (lastT l known k) else lastT l known k

theorem findN_some {d : Int} {m : List Nt} {o : Nt} (h : findN d m = some o) : o ∈ m ∧ o.day = d := by
  unfold findN at h
  exact ⟨List.mem_of_find?_eq_some h, by simpa using List.find?_some h⟩
theorem findN_none {d : Int} {m : List Nt} (h : findN d m = none) {o : Nt} (ho : o ∈ m) : o.day ≠ d := by
  unfold findN at h
  rw [List.find?_eq_none] at h
  simpa using h o ho
theorem days_inj : ∀ {m : List Nt}, (m.map (·.day)).Nodup → ∀ {n o : Nt}, n ∈ m → o ∈ m → n.day = o.day → n = o
  | [], _, _, _, h, _, _ => by cases h
  | x :: m, hn, n, o, h1, h2, hd => by
    rw [List.map_cons, List.nodup_cons] at hn
    rcases List.mem_cons.1 h1 with rfl | g1
    · rcases List.mem_cons.1 h2 with rfl | g2
      · rfl
      · exact absurd (hd ▸ List.mem_map_of_mem (f := (·.day)) g2) hn.1
    · rcases List.mem_cons.1 h2 with rfl | g2
      · exact absurd (hd ▸ List.mem_map_of_mem (f := (·.day)) g1) hn.1
      · exact days_inj hn.2 g1 g2 hd
theorem setN_mem {x : Nt} : ∀ {m : List Nt}, (m.map (·.day)).Nodup → ∀ n, n ∈ setN x m ↔ n = x ∨ (n ∈ m ∧ n.day ≠ x.day)
  | [], _, n => by simp [setN]
  | o :: m, hn, n => by
    rw [List.map_cons, List.nodup_cons] at hn
    rw [setN]
    split
    · rename_i ho
      rw [List.mem_cons, List.mem_cons]
      constructor
      · rintro (h | h)
        · exact .inl h
        · refine .inr ⟨.inr h, fun e => hn.1 ?_⟩
          rw [ho, ← e]
          exact List.mem_map_of_mem (f := (·.day)) h
      · rintro (h | ⟨h | h, h'⟩)
        · exact .inl h
        · subst h; exact absurd ho h'
        · exact .inr h
    · rename_i ho
      rw [List.mem_cons, setN_mem hn.2 n, List.mem_cons]
      constructor
      · rintro (h | h | h)
        · subst h; exact .inr ⟨.inl rfl, ho⟩
        · exact .inl h
        · exact .inr ⟨.inr h.1, h.2⟩
      · rintro (h | ⟨h | h, h'⟩)
        · exact .inr (.inl h)
        · exact .inl h
        · exact .inr (.inr ⟨h, h'⟩)
theorem setN_nodup {x : Nt} : ∀ {m : List Nt}, (m.map (·.day)).Nodup → ((setN x m).map (·.day)).Nodup
  | [], _ => by simp [setN]
  | o :: m, hn => by
    have hn0 := hn
    rw [List.map_cons, List.nodup_cons] at hn
    rw [setN]
    split
    · rename_i ho
      rw [List.map_cons, List.nodup_cons, ← ho]
      exact hn
    · rename_i ho
      rw [List.map_cons, List.nodup_cons]
      refine ⟨fun hm => ?_, setN_nodup hn.2⟩
      obtain ⟨n, h1, h2⟩ := List.mem_map.1 hm
      rcases (setN_mem hn.2 n).1 h1 with h | h
      · subst h; exact ho h2.symm
      · exact hn.1 (h2 ▸ List.mem_map_of_mem (f := (·.day)) h.1)

/-- Does a note count among the first ones? -/
def cntP (l : List Nt) (known : Int) (k i : Nat) : Prop := (l.getD i default).came ≤ known ∧ ∀ j, j < k → outs known (l.getD i default) i (l.getD j default) j = false
theorem outs_later {known : Int} {n o : Nt} {i j : Nat} (h : i ≤ j) : outs known n i o j = false ↔ ¬ (o.day = n.day ∧ o.came ≤ known ∧ n.came < o.came) := by
  unfold outs
  rw [← Bool.not_eq_true]
  simp only [Bool.and_eq_true, Bool.or_eq_true, decide_eq_true_eq]
  constructor
  · intro h1 h2; exact h1 ⟨⟨h2.1, h2.2.1⟩, .inl h2.2.2⟩
  · rintro h1 ⟨⟨h2, h3⟩, h4 | h4⟩
    · exact h1 ⟨h2, h3, h4⟩
    · omega
theorem outs_before {known : Int} {n o : Nt} {i j : Nat} (h : j < i) : outs known n i o j = false ↔ ¬ (o.day = n.day ∧ o.came ≤ known ∧ n.came ≤ o.came) := by
  unfold outs
  rw [← Bool.not_eq_true]
  simp only [Bool.and_eq_true, Bool.or_eq_true, decide_eq_true_eq]
  constructor
  · intro h1 h2; exact h1 ⟨⟨h2.1, h2.2.1⟩, by omega⟩
  · rintro h1 ⟨⟨h2, h3⟩, h4⟩
    exact h1 ⟨h2, h3, by omega⟩

structure LastOK (l : List Nt) (known : Int) (k : Nat) (m : List Nt) : Prop where
  nodup : (m.map (·.day)).Nodup
  mem : ∀ n, n ∈ m ↔ ∃ i, i < k ∧ cntP l known k i ∧ l.getD i default = n
  top : ∀ j, j < k → (l.getD j default).came ≤ known → ∃ n ∈ m, n.day = (l.getD j default).day ∧ (l.getD j default).came ≤ n.came
theorem last_ok (l : List Nt) (known : Int) : ∀ k, LastOK l known k (lastT l known k)
  | 0 => ⟨by simp [lastT], fun n => by simp [lastT], fun j hj => absurd hj (by omega)⟩
  | k + 1 => by
    obtain ⟨h1, h2, h3⟩ := last_ok l known k
    have hlt : ∀ i, i < k → (cntP l known (k + 1) i ↔ cntP l known k i ∧ ¬ ((l.getD k default).day = (l.getD i default).day ∧ (l.getD k default).came ≤ known ∧ (l.getD i default).came < (l.getD k default).came)) := fun i hi => by
      unfold cntP
      constructor
      · rintro ⟨a, b⟩
        exact ⟨⟨a, fun j hj => b j (by omega)⟩, (outs_later (by omega)).1 (b k (by omega))⟩
      · rintro ⟨⟨a, b⟩, c⟩
        refine ⟨a, fun j hj => ?_⟩
        by_cases e : j = k
        · subst e; exact (outs_later (by omega)).2 c
        · exact b j (by omega)
    have hself : cntP l known (k + 1) k ↔ (l.getD k default).came ≤ known ∧ ∀ j, j < k → ¬ ((l.getD j default).day = (l.getD k default).day ∧ (l.getD j default).came ≤ known ∧ (l.getD k default).came ≤ (l.getD j default).came) := by
      unfold cntP
      constructor
      · rintro ⟨a, b⟩
        exact ⟨a, fun j hj => (outs_before hj).1 (b j (by omega))⟩
      · rintro ⟨a, b⟩
        refine ⟨a, fun j hj => ?_⟩
        by_cases e : j = k
        · subst e; exact (outs_later (Nat.le_refl _)).2 (by omega)
        · exact (outs_before (by omega)).2 (b j (by omega))
    have hlt2 : ∀ n, (∃ i, i < k + 1 ∧ cntP l known (k + 1) i ∧ l.getD i default = n) ↔ (n ∈ lastT l known k ∧ ¬ ((l.getD k default).day = n.day ∧ (l.getD k default).came ≤ known ∧ n.came < (l.getD k default).came)) ∨ (cntP l known (k + 1) k ∧ n = l.getD k default) := fun n => by
      constructor
      · rintro ⟨i, hi, hc, rfl⟩
        by_cases e : i = k
        · subst e; exact .inr ⟨hc, rfl⟩
        · have := (hlt i (by omega)).1 hc
          exact .inl ⟨(h2 _).2 ⟨i, by omega, this.1, rfl⟩, this.2⟩
      · rintro (⟨hm, hc⟩ | ⟨hc, rfl⟩)
        · obtain ⟨i, hi, hp, rfl⟩ := (h2 _).1 hm
          exact ⟨i, by omega, (hlt i hi).2 ⟨hp, hc⟩, rfl⟩
        · exact ⟨k, by omega, hc, rfl⟩
    have hin : ∀ n ∈ lastT l known k, n.came ≤ known := fun n hn => by
      obtain ⟨i, _, hp, rfl⟩ := (h2 n).1 hn
      exact hp.1
    have hfind : ∀ n ∈ lastT l known k, ∃ o, findN n.day (lastT l known k) = some o ∧ o = n := fun n hn => by
      cases hf : findN n.day (lastT l known k) with
      | none => exact absurd rfl (findN_none hf hn)
      | some o => exact ⟨o, rfl, days_inj h1 (findN_some hf).1 hn (findN_some hf).2⟩
    rw [lastT]
    generalize hx : l.getD k default = x at *
    split
    · rename_i hb
      unfold lateB at hb
      rw [Bool.and_eq_true, decide_eq_true_eq] at hb
      have hless : ∀ n ∈ lastT l known k, n.day = x.day → n.came < x.came := fun n hn hd => by
        obtain ⟨o, ho, rfl⟩ := hfind n hn
        have := hb.2
        rw [← hd, ho] at this
        exact of_decide_eq_true this
      refine ⟨setN_nodup h1, fun n => ?_, fun j hj hc => ?_⟩
      · rw [setN_mem h1, hlt2]
        constructor
        · rintro (rfl | ⟨hm, hd⟩)
          · refine .inr ⟨hself.2 ⟨hb.1, fun j hj hc => ?_⟩, rfl⟩
            obtain ⟨n', hn', e1, e2⟩ := h3 j hj hc.2.1
            have := hless n' hn' (e1.trans hc.1)
            omega
          · exact .inl ⟨hm, fun h => hd h.1.symm⟩
        · rintro (⟨hm, hc⟩ | ⟨_, rfl⟩)
          · exact .inr ⟨hm, fun hd => hc ⟨hd.symm, hb.1, hless n hm hd⟩⟩
          · exact .inl rfl
      · by_cases e : j = k
        · subst e
          rw [hx]
          exact ⟨x, (setN_mem h1 x).2 (.inl rfl), rfl, Int.le_refl _⟩
        · obtain ⟨n, hn, e1, e2⟩ := h3 j (by omega) hc
          by_cases hd : n.day = x.day
          · exact ⟨x, (setN_mem h1 x).2 (.inl rfl), hd.symm.trans e1, by have := hless n hn hd; omega⟩
          · exact ⟨n, (setN_mem h1 n).2 (.inr ⟨hn, hd⟩), e1, e2⟩
    · rename_i hb
      have hmore : x.came ≤ known → ∃ o ∈ lastT l known k, o.day = x.day ∧ x.came ≤ o.came := fun hk => by
        unfold lateB at hb
        rw [Bool.and_eq_true, decide_eq_true_eq] at hb
        cases hf : findN x.day (lastT l known k) with
        | none => exact absurd ⟨hk, by rw [hf]⟩ hb
        | some o =>
          refine ⟨o, (findN_some hf).1, (findN_some hf).2, ?_⟩
          refine Classical.byContradiction fun hc => hb ⟨hk, ?_⟩
          rw [hf]
          exact decide_eq_true (by omega)
      refine ⟨h1, fun n => ?_, fun j hj hc => ?_⟩
      · rw [hlt2]
        constructor
        · intro hm
          refine .inl ⟨hm, fun hc => ?_⟩
          obtain ⟨o, ho, e1, e2⟩ := hmore hc.2.1
          have := days_inj h1 ho hm (e1.trans hc.1)
          subst this
          omega
        · rintro (h | ⟨hc, rfl⟩)
          · exact h.1
          · obtain ⟨hk, hno⟩ := hself.1 hc
            obtain ⟨o, ho, e1, e2⟩ := hmore hk
            obtain ⟨i, hi, hp, rfl⟩ := (h2 o).1 ho
            exact absurd ⟨e1, hp.1, e2⟩ (hno i hi)
      · by_cases e : j = k
        · subst e
          rw [hx] at hc ⊢
          exact hmore hc
        · exact h3 j (by omega) hc

theorem cntL_iff {l : List Nt} {known : Int} (n : Nt) : n ∈ cntL l known ↔ ∃ i, i < l.length ∧ cnts l known i = true ∧ l.getD i default = n := by
  constructor
  · exact (cntT_days l known l.length (Nat.le_refl _)).2 n
  · rintro ⟨i, hi, hc, rfl⟩
    unfold cntL cntT
    exact List.mem_map.2 ⟨i, List.mem_filter.2 ⟨List.mem_range.2 hi, hc⟩, rfl⟩
theorem nodup_of_map {α β : Type} {f : α → β} : ∀ {l : List α}, (l.map f).Nodup → l.Nodup
  | [], _ => List.nodup_nil
  | x :: l, h => by
    rw [List.map_cons, List.nodup_cons] at h
    exact List.nodup_cons.2 ⟨fun hx => h.1 (List.mem_map_of_mem hx), nodup_of_map h.2⟩
theorem last_perm (l : List Nt) (known : Int) : (lastT l known l.length).Perm (cntL l known) := by
  obtain ⟨h1, h2, _⟩ := last_ok l known l.length
  have h4 := (cntT_days l known l.length (Nat.le_refl _)).1
  refine (List.perm_ext_iff_of_nodup (nodup_of_map h1) (nodup_of_map h4)).2 fun n => ?_
  show n ∈ _ ↔ n ∈ cntL l known
  rw [h2, cntL_iff]
  constructor
  · rintro ⟨i, hi, hp, e⟩; exact ⟨i, hi, cnts_iff.2 hp, e⟩
  · rintro ⟨i, hi, hp, e⟩; exact ⟨i, hi, cnts_iff.1 hp, e⟩
theorem lastT_len (l : List Nt) (known : Int) : ∀ k, (lastT l known k).length ≤ k
  | 0 => by simp [lastT]
  | k + 1 => by
    have ih := lastT_len l known k
    have hs : ∀ (x : Nt) (m : List Nt), (setN x m).length ≤ m.length + 1 := fun x m => by
      induction m with
      | nil => simp [setN]
      | cons o m ih =>
        rw [setN]
        split
        · simp
        · simp; omega
    rw [lastT]
    split
    · have := hs (l.getD k default) (lastT l known k); omega
    · omega

def ntB (x y : Nt) : Bool := decide (x.day < y.day)
theorem ntB_weak : Weak ntB := by
  constructor <;> (intros; simp_all [ntB]) <;> omega
/-- The first point, as a note. -/
def firN (a : Ac) : Nt := ⟨a.start, a.fig, 0⟩
/-- The points that are known, as notes, in order. -/
def ntsOf (a : Ac) (known : Int) : List Nt := isortE ntB (firN a :: cntL a.ns known)
theorem nts_perm (a : Ac) (known : Int) : (ntsOf a known).Perm (firN a :: cntL a.ns known) := isortE_perm _ _
theorem nts_nodup {a : Ac} (v : Val a) (known : Int) : ((firN a :: cntL a.ns known).map (·.day)).Nodup := by
  rw [List.map_cons, List.nodup_cons]
  refine ⟨fun hm => ?_, (cntT_days a.ns known a.ns.length (Nat.le_refl _)).1⟩
  obtain ⟨n, hn, he⟩ := List.mem_map.1 hm
  have h4 := v.nte n (cntL_mem hn).1
  have : n.day = a.start := he
  omega
theorem strict_of {l : List Nt} (h1 : l.Pairwise fun x y => ¬ y.day < x.day) (h2 : (l.map (·.day)).Nodup) : l.Pairwise fun x y => x.day < y.day := by
  unfold List.Nodup at h2
  rw [List.pairwise_map] at h2
  exact (h1.and h2).imp fun {a b} h => by have := h.1; have := h.2; omega
theorem uniq_nts {l m : List Nt} (h1 : l.Pairwise fun x y => x.day < y.day) (h2 : m.Pairwise fun x y => x.day < y.day) (hp : l.Perm m) : l = m :=
  List.Perm.eq_of_pairwise (le := fun x y : Nt => x.day < y.day) (fun a b _ _ h h' => by omega) h1 h2 hp
theorem nts_strict {a : Ac} (v : Val a) (known : Int) : (ntsOf a known).Pairwise fun x y => x.day < y.day := by
  refine strict_of ?_ ?_
  · have h : InO ntB (ntsOf a known) := ino_sort ntB_weak _
    exact List.Pairwise.imp (fun {x y} h => by unfold ntB at h; simpa using h) h
  · rw [((nts_perm a known).map _).nodup_iff]
    exact nts_nodup v known
theorem nts_uniq {a : Ac} (v : Val a) {known : Int} {d l : List Nt} (hl : l.Perm (lastT a.ns known a.ns.length)) (h1 : d.Perm (firN a :: l)) (h2 : d.Pairwise fun x y => ¬ y.day < x.day) : d = ntsOf a known := by
  have hp : d.Perm (firN a :: cntL a.ns known) := h1.trans ((hl.trans (last_perm a.ns known)).cons _)
  refine uniq_nts (strict_of h2 ?_) (nts_strict v known) (hp.trans (nts_perm a known).symm)
  rw [(hp.map _).nodup_iff]
  exact nts_nodup v known
theorem nts_pts {a : Ac} (v : Val a) (known : Int) : (ntsOf a known).map ptOf = pts a known := by
  refine List.Perm.eq_of_pairwise (le := fun p q : Pt => p.1 < q.1) (fun a b _ _ h h' => by omega) ?_ (pts_strict v known) ?_
  · rw [List.pairwise_map]; exact nts_strict v known
  · exact ((nts_perm a known).map ptOf).trans (pts_perm a known).symm
theorem nts_len {a : Ac} (v : Val a) (known : Int) : 1 ≤ (ntsOf a known).length ∧ (ntsOf a known).length ≤ 25 := by
  have h1 := pts_len a known
  have h2 := v.nns
  rw [← nts_pts v, List.length_map] at h1
  omega
end Go.Bi
namespace Go.Bi
open Go.Mw
def keyB (o n : Nt) : Bool := decide (o.day = n.day) && decide (o.came = n.came)
def setS (n : Nt) : List Nt → List Nt
  | [] => [n]
  | o :: r => if keyB o n = true then n :: r else o :: setS n r
def findS (n : Nt) (m : List Nt) : Option Nt := m.find? fun o => keyB o n
def seenT (l : List Nt) : Nat → List Nt
  | 0 => []
  | k + 1 => setS (l.getD k default) (seenT l k)
theorem keyB_iff {o n : Nt} : keyB o n = true ↔ o.day = n.day ∧ o.came = n.came := by simp [keyB]
theorem findS_cons (n o : Nt) (r : List Nt) : findS n (o :: r) = if keyB o n = true then some o else findS n r := by
  unfold findS
  rw [List.find?_cons]
  cases keyB o n <;> rfl
theorem findS_set (n x : Nt) : ∀ m, findS n (setS x m) = if keyB x n = true then some x else findS n m
  | [] => by rw [setS, findS_cons]
  | o :: m => by
    rw [setS]
    split
    · rename_i h
      rw [findS_cons, findS_cons]
      split
      · rfl
      · rename_i h2
        rw [if_neg]
        rw [keyB_iff] at *
        omega
    · rename_i h
      rw [findS_cons, findS_set n x m, findS_cons]
      split
      · rename_i h1
        rw [if_neg]
        rw [keyB_iff] at *
        omega
      · rfl
theorem find_seen (l : List Nt) (n : Nt) : ∀ k, (∀ o, findS n (seenT l k) = some o → ∃ i, i < k ∧ l.getD i default = o ∧ keyB o n = true) ∧ (findS n (seenT l k) = none → ∀ i, i < k → keyB (l.getD i default) n = false)
  | 0 => ⟨fun o h => by simp [seenT, findS] at h, fun _ i hi => absurd hi (by omega)⟩
  | k + 1 => by
    obtain ⟨h1, h2⟩ := find_seen l n k
    rw [seenT, findS_set]
    split
    · rename_i h
      exact ⟨fun o ho => ⟨k, by omega, Option.some.inj ho, Option.some.inj ho ▸ h⟩, fun hn => by cases hn⟩
    · rename_i h
      refine ⟨fun o ho => ?_, fun hn i hi => ?_⟩
      · obtain ⟨i, hi, h⟩ := h1 o ho
        exact ⟨i, by omega, h⟩
      · by_cases e : i = k
        · subst e; simpa using h
        · exact h2 hn i (by omega)
theorem twin_iff {n o : Nt} : twin n o = true ↔ keyB o n = true ∧ o.fig ≠ n.fig := by simp [twin, keyB]
/-- What was seen tells whether there is a twin. -/
theorem seen_twin {l : List Nt} {k : Nat} (hk : k < l.length) (ht : ∀ i j, i < k → j < i → twin (l.getD i default) (l.getD j default) = false) :
    (match findS (l.getD k default) (seenT l k) with
     | some o => decide (o.fig ≠ (l.getD k default).fig)
     | none => false) = (l.take k).any (twin (l.getD k default)) := by
  obtain ⟨h1, h2⟩ := find_seen l (l.getD k default) k
  have hany : (l.take k).any (twin (l.getD k default)) = true ↔ ∃ i, i < k ∧ twin (l.getD k default) (l.getD i default) = true := by
    rw [List.any_eq_true]
    constructor
    · rintro ⟨x, hx, h⟩
      obtain ⟨i, hi⟩ := List.getElem?_of_mem hx
      have hil := (List.getElem?_eq_some_iff.1 hi).1
      rw [List.length_take] at hil
      rw [List.getElem?_take_of_lt (by omega)] at hi
      exact ⟨i, by omega, by rw [getD_of hi]; exact h⟩
    · rintro ⟨i, hi, h⟩
      refine ⟨l.getD i default, List.mem_of_getElem? (i := i) ?_, h⟩
      rw [List.getElem?_take_of_lt hi, List.getElem?_eq_getElem (by omega)]
      simp [List.getD, List.getElem?_eq_getElem (show i < l.length by omega)]
  rw [Bool.eq_iff_iff, hany]
  cases hf : findS (l.getD k default) (seenT l k) with
  | none =>
    have := h2 hf
    constructor
    · intro h; cases h
    · rintro ⟨i, hi, h⟩
      rw [twin_iff, this i hi] at h
      cases h.1
  | some o =>
    obtain ⟨i, hi, rfl, hkey⟩ := h1 o hf
    simp only [decide_eq_true_eq]
    constructor
    · intro h; exact ⟨i, hi, twin_iff.2 ⟨hkey, h⟩⟩
    · rintro ⟨j, hj, h⟩
      obtain ⟨g1, g2⟩ := twin_iff.1 h
      intro he
      rw [keyB_iff] at hkey g1
      by_cases hij : i = j
      · subst hij; exact g2 he
      · rcases Nat.lt_or_gt_of_ne hij with hlt | hgt
        · have := ht j i hj hlt
          rw [← Bool.not_eq_true] at this
          apply this
          rw [twin_iff, keyB_iff]
          exact ⟨⟨by omega, by omega⟩, by omega⟩
        · have := ht i j hi hgt
          rw [← Bool.not_eq_true] at this
          apply this
          rw [twin_iff, keyB_iff]
          exact ⟨⟨by omega, by omega⟩, by omega⟩
/-- The figure before a point. -/
def figK (l : List Nt) : Nat → Int
  | 0 => 0
  | k + 1 => (l.getD k default).fig
theorem ord_fig {a : Ac} (v : Val a) (known : Int) : ordB a known = true ↔ ∀ i, i < (ntsOf a known).length → figK (ntsOf a known) i ≤ figK (ntsOf a known) (i + 1) := by
  unfold ordB
  rw [← nts_pts v]
  generalize ntsOf a known = l
  suffices h : ∀ (l : List Nt) (f : Int), ordF f (l.map ptOf) = true ↔ (∀ n, l[0]? = some n → f ≤ n.fig) ∧ ∀ i, i + 1 < l.length → (l.getD i default).fig ≤ (l.getD (i + 1) default).fig by
    rw [h]
    constructor
    · rintro ⟨h1, h2⟩ i hi
      cases i with
      | zero =>
        show 0 ≤ (l.getD 0 default).fig
        exact h1 _ (by rw [List.getElem?_eq_getElem hi]; simp [List.getD, List.getElem?_eq_getElem hi])
      | succ i => exact h2 i hi
    · intro h3
      refine ⟨fun n hn => ?_, fun i hi => h3 (i + 1) hi⟩
      have := h3 0 (List.getElem?_eq_some_iff.1 hn).1
      have e : figK l 1 = n.fig := by show (l.getD 0 default).fig = _; rw [getD_of hn]
      rw [e] at this
      exact this
  intro l
  induction l with
  | nil => intro f; simp [ordF]
  | cons n l ih =>
    intro f
    rw [List.map_cons, ordF, Bool.and_eq_true, decide_eq_true_eq, ih]
    constructor
    · rintro ⟨h1, h2, h3⟩
      refine ⟨fun m hm => ?_, fun i hi => ?_⟩
      · simp at hm; subst hm; exact h1
      · cases i with
        | zero =>
          have hl : 0 < l.length := by simpa using hi
          have := h2 (l.getD 0 default) (by rw [List.getElem?_eq_getElem hl]; simp [List.getD, List.getElem?_eq_getElem hl])
          exact this
        | succ i => exact h3 i (by simpa using hi)
    · rintro ⟨h1, h2⟩
      refine ⟨h1 n rfl, fun m hm => ?_, fun i hi => h2 (i + 1) (by simpa using hi)⟩
      have hl := (List.getElem?_eq_some_iff.1 hm).1
      have := h2 0 (by simpa using hl)
      have e : (n :: l).getD (0 + 1) default = m := by show l.getD 0 default = m; exact getD_of hm
      rw [e] at this
      exact this
end Go.Bi
namespace Go.Bi
open Go.Mw

/-! ### What a bill's parts depend on -/
theorem usedO_app (a : Ac) (l : List Pt) (day n : Int) (L M : List Dp) : usedO a l day n (L ++ M) = usedO a l day (usedO a l day n L) M := by unfold usedO; rw [List.foldl_append]
theorem feeO_app (n : Int) (L M : List Dp) : feeO n (L ++ M) = feeO (feeO n L) M := by unfold feeO; rw [List.foldl_append]
theorem usedO_add (a : Ac) (l : List Pt) (day c : Int) : ∀ (L : List Dp) (n : Int), usedO a l day (n + c) L = usedO a l day n L + c
  | [], n => rfl
  | d :: L, n => by
    show usedO a l day (n + c - tOff a l day d) L = usedO a l day (n - tOff a l day d) L + c
    rw [show n + c - tOff a l day d = n - tOff a l day d + c from by omega, usedO_add a l day c L]
theorem feeO_add (c : Int) : ∀ (L : List Dp) (n : Int), feeO (n + c) L = feeO n L + c
  | [], n => rfl
  | d :: L, n => by
    show feeO (n + c + tFee d) L = feeO (n + tFee d) L + c
    rw [show n + c + tFee d = n + tFee d + c from by omega, feeO_add c L]
/-- What was used, by the disputes that tell. -/
def usedG (a : Ac) (l : List Pt) (L : List Dp) (day : Int) : Int := usedO a l day (shw a l day - a.fig) L
def trCostG (a : Ac) (l : List Pt) (L : List Dp) (day : Int) (i : Nat) : Int :=
  if trFr a i < trTo a day i then ((usedG a l L (trTo a day i) - usedG a l L (trFr a i)) * (a.ts.getD i default).pence).tdiv 1000 else 0
def costTG (a : Ac) (l : List Pt) (L : List Dp) (day : Int) : Nat → Int
  | 0 => a.stand * (day - a.start)
  | k + 1 => costTG a l L day k + trCostG a l L day k
def costG (a : Ac) (l : List Pt) (L : List Dp) (day : Int) : Int := feeO (costTG a l L day a.ts.length) L
theorem used_G (a : Ac) (known but day : Int) : used a known but day = usedG a (pts a known) (tells a known but) day := rfl
theorem costT_G (a : Ac) (known but day : Int) : ∀ k, costT a known but day k = costTG a (pts a known) (tells a known but) day k
  | 0 => rfl
  | k + 1 => by rw [costT, costTG, costT_G a known but day k]; rfl
theorem cost_G (a : Ac) (known but day : Int) : cost a known but day = costG a (pts a known) (tells a known but) day := by
  unfold cost costG; rw [costT_G]
/-- The account with other disputes, and with other notes. -/
def acD (a : Ac) (l : List Dp) : Ac := { a with ds := l }
def acN (a : Ac) (l : List Nt) : Ac := { a with ns := l }
theorem costTG_D (a : Ac) (ds : List Dp) (l : List Pt) (L : List Dp) (day : Int) : ∀ k, costTG (acD a ds) l L day k = costTG a l L day k
  | 0 => rfl
  | k + 1 => by rw [costTG, costTG, costTG_D a ds l L day k]; rfl
theorem costG_D (a : Ac) (ds : List Dp) (l : List Pt) (L : List Dp) (day : Int) : costG (acD a ds) l L day = costG a l L day := by
  unfold costG; rw [costTG_D]; rfl
theorem costTG_N (a : Ac) (ns : List Nt) (l : List Pt) (L : List Dp) (day : Int) : ∀ k, costTG (acN a ns) l L day k = costTG a l L day k
  | 0 => rfl
  | k + 1 => by rw [costTG, costTG, costTG_N a ns l L day k]; rfl
theorem costG_N (a : Ac) (ns : List Nt) (l : List Pt) (L : List Dp) (day : Int) : costG (acN a ns) l L day = costG a l L day := by
  unfold costG; rw [costTG_N]; rfl
theorem used_N (a : Ac) (ns : List Nt) {known but day : Int} (h : pts (acN a ns) known = pts a known) : used (acN a ns) known but day = used a known but day := by
  rw [used_G, used_G, h]; rfl
theorem cost_N (a : Ac) (ns : List Nt) {known but day : Int} (h : pts (acN a ns) known = pts a known) : cost (acN a ns) known but day = cost a known but day := by
  rw [cost_G, cost_G, h, costG_N]; rfl

/-! ### A day later -/
theorem trTo_mono (a : Ac) {d1 d2 : Int} (h : d1 ≤ d2) (i : Nat) : trTo a d1 i ≤ trTo a d2 i := by
  unfold trTo; split <;> omega
theorem trTo_day (a : Ac) (day : Int) (i : Nat) : trTo a day i ≤ day := by unfold trTo; split <;> omega
theorem trFr_bnd {a : Ac} (v : Val a) {i : Nat} (hi : i < a.ts.length) : a.start ≤ trFr a i ∧ trFr a i ≤ 131072 := by
  have h1 : a.ts[i]? = some (a.ts.getD i default) := by rw [List.getElem?_eq_getElem hi]; simp [List.getD, List.getElem?_eq_getElem hi]
  have := v.trf i _ h1
  have := v.start
  unfold trFr; omega
theorem trCost_mono {a : Ac} (v : Val a) {known but : Int} (ho : ordB a known = true) {d1 d2 : Int} (k1 : a.start ≤ d1) (k2 : d1 ≤ d2) (k3 : d2 ≤ 131072) {i : Nat} (hi : i < a.ts.length) : trCost a known but d1 i ≤ trCost a known but d2 i := by
  have hb := trFr_bnd v hi
  have h1 : a.ts[i]? = some (a.ts.getD i default) := by rw [List.getElem?_eq_getElem hi]; simp [List.getD, List.getElem?_eq_getElem hi]
  have hp := (v.trf i _ h1).2.1
  have m := trTo_mono a k2 i
  have e2 := trTo_day a d2 i
  have pos : ∀ d, d ≤ d2 → trFr a i < trTo a d i → 0 ≤ (used a known but (trTo a d i) - used a known but (trFr a i)) * (a.ts.getD i default).pence := fun d hd hl => by
    have h := used_step v (but := but) ho (d1 := trFr a i) (d2 := trTo a d i) hb.1 (by omega) (by have := trTo_day a d i; omega)
    exact Int.mul_nonneg (by omega) hp.1
  unfold trCost
  split
  · rename_i hl
    rw [if_pos (by omega)]
    have h := used_step v (but := but) ho (d1 := trTo a d1 i) (d2 := trTo a d2 i) (by omega) m (by omega)
    exact tdiv_mono (pos d1 k2 hl) (Int.mul_le_mul_of_nonneg_right (by omega) hp.1) (by omega)
  · split
    · rename_i hl
      exact (tdiv_bnd (pos d2 (Int.le_refl _) hl) (by omega)).1
    · exact Int.le_refl _
theorem feeO_eq (L : List Dp) (n : Int) : feeO n L = n + feeO 0 L := by
  have := feeO_add n L 0
  rw [Int.zero_add] at this
  omega
theorem cost_step {a : Ac} (v : Val a) {known but : Int} (ho : ordB a known = true) {d1 d2 : Int} (k1 : a.start ≤ d1) (k2 : d1 ≤ d2) (k3 : d2 ≤ 131072) : a.stand * (d2 - d1) ≤ cost a known but d2 - cost a known but d1 := by
  have key : ∀ k, k ≤ a.ts.length → a.stand * (d2 - d1) ≤ costT a known but d2 k - costT a known but d1 k := fun k => by
    induction k with
    | zero =>
      intro _
      show a.stand * (d2 - d1) ≤ a.stand * (d2 - a.start) - a.stand * (d1 - a.start)
      rw [← Int.mul_sub]
      have : d2 - a.start - (d1 - a.start) = d2 - d1 := by omega
      rw [this]; exact Int.le_refl _
    | succ k ih =>
      intro hk
      have h1 := ih (by omega)
      have h2 := trCost_mono v (but := but) ho k1 k2 k3 (i := k) (by omega)
      rw [costT, costT]; omega
  have := key a.ts.length (Nat.le_refl _)
  unfold cost
  rw [feeO_eq, feeO_eq (tells a known but) (costT a known but d1 _)]
  omega
/-- At a point that is known the meter showed just this. -/
theorem shw_at {a : Ac} {l : List Pt} (r : Rise a l) {i : Nat} (hi : i < l.length) : shw a l (ptAt l i).1 = (ptAt l i).2 := by
  have hl := r.len
  by_cases h1 : l.length = 1
  · have : i = 0 := by omega
    subst this
    unfold shw
    rw [if_pos h1, r.hd]
    simp
  · rw [shw_many h1]
    have hb : baI l (ptAt l i).1 = i := by
      unfold baI
      cases h : aftI l (ptAt l i).1 with
      | none =>
        have := aft_none h (l.length - 1) (by omega)
        show l.length - 1 = i
        refine Classical.byContradiction fun hc => ?_
        have := r.day i (l.length - 1) (by omega) (by omega)
        omega
      | some j =>
        obtain ⟨g1, g2, g3⟩ := aft_some h
        show j - 1 = i
        have h2 : i < j := by
          refine Classical.byContradiction fun hc => ?_
          rcases Nat.lt_or_eq_of_le (Nat.le_of_not_lt hc) with h | rfl
          · have := r.day j i h hi; omega
          · omega
        refine Classical.byContradiction fun hc => ?_
        have := g3 (i + 1) (by omega)
        have := r.day i (i + 1) (by omega) (by omega)
        omega
    rw [hb]
    simp

/-! ### Which notes there are -/
def NoTw (l : List Nt) : Prop := ∀ n ∈ l, ∀ o ∈ l, n.day = o.day → n.came = o.came → n.fig = o.fig
theorem getD_of_mem {l : List Nt} {n : Nt} (h : n ∈ l) : ∃ i, i < l.length ∧ l.getD i default = n := by
  obtain ⟨i, hi⟩ := List.getElem?_of_mem h
  exact ⟨i, (List.getElem?_eq_some_iff.1 hi).1, getD_of hi⟩
theorem nt_ext {n o : Nt} (h1 : n.day = o.day) (h2 : n.came = o.came) (h3 : n.fig = o.fig) : n = o := by
  cases n; cases o; simp_all
/-- The first of some. -/
theorem first_of {p : Nat → Prop} [DecidablePred p] : ∀ {n : Nat}, (∃ i, i < n ∧ p i) → ∃ i, i < n ∧ p i ∧ ∀ j, j < i → ¬ p j
  | 0, h => by obtain ⟨i, hi, _⟩ := h; exact absurd hi (by omega)
  | n + 1, h => by
    by_cases hc : ∃ i, i < n ∧ p i
    · obtain ⟨i, hi, h1, h2⟩ := first_of hc
      exact ⟨i, by omega, h1, h2⟩
    · obtain ⟨i, hi, h1⟩ := h
      have : i = n := by
        refine Classical.byContradiction fun hne => hc ⟨i, by omega, h1⟩
      subst this
      exact ⟨i, by omega, h1, fun j hj hp => hc ⟨j, hj, hp⟩⟩
theorem cntL_noTw {l : List Nt} (h : NoTw l) {known : Int} (n : Nt) : n ∈ cntL l known ↔ n ∈ l ∧ n.came ≤ known ∧ ∀ o ∈ l, ¬ (o.day = n.day ∧ o.came ≤ known ∧ n.came < o.came) := by
  rw [cntL_iff]
  constructor
  · rintro ⟨i, hi, hc, rfl⟩
    obtain ⟨h1, h2⟩ := cnts_iff.1 hc
    refine ⟨getD_mem hi, h1, fun o ho hbad => ?_⟩
    obtain ⟨j, hj, rfl⟩ := getD_of_mem ho
    have := h2 j hj
    unfold outs at this
    simp only [Bool.and_eq_false_iff, Bool.or_eq_false_iff, decide_eq_false_iff_not] at this
    omega
  · rintro ⟨hn, hk, hno⟩
    obtain ⟨i0, hi0, he0⟩ := getD_of_mem hn
    obtain ⟨i, hi, he, hmin⟩ := first_of (p := fun i => l.getD i default = n) ⟨i0, hi0, he0⟩
    refine ⟨i, hi, cnts_iff.2 ⟨by rw [he]; exact hk, fun j hj => ?_⟩, he⟩
    have hm := getD_mem (d := default) hj
    have h1 := hno _ hm
    rw [he]
    unfold outs
    rw [← Bool.not_eq_true]
    simp only [Bool.and_eq_true, Bool.or_eq_true, decide_eq_true_eq]
    rintro ⟨⟨g1, g2⟩, g3 | ⟨g3, g4⟩⟩
    · exact h1 ⟨g1, g2, g3⟩
    · exact hmin j g4 (nt_ext g1 g3 (h _ hm _ hn g1 g3))
/-- Two lists of notes that tell the same. -/
theorem cntL_perm {l m : List Nt} {known : Int} (h : ∀ n, n ∈ cntL l known ↔ n ∈ cntL m known) : (cntL l known).Perm (cntL m known) :=
  (List.perm_ext_iff_of_nodup (nodup_of_map (cntT_days l known l.length (Nat.le_refl _)).1) (nodup_of_map (cntT_days m known m.length (Nat.le_refl _)).1)).2 h
theorem pts_of_perm {a : Ac} (v : Val a) {m : List Nt} (vm : Val (acN a m)) {known : Int} (h : ((cntL m known).map ptOf).Perm ((cntL a.ns known).map ptOf)) : pts (acN a m) known = pts a known := by
  refine List.Perm.eq_of_pairwise (le := fun p q : Pt => p.1 < q.1) (fun a b _ _ h h' => by omega) (pts_strict vm known) (pts_strict v known) ?_
  refine (pts_perm (acN a m) known).trans (List.Perm.trans ?_ (pts_perm a known).symm)
  exact h.cons _
theorem twin_noTw {l : List Nt} : twT l l.length = false ↔ NoTw l := by
  have key : ∀ k, k ≤ l.length → (twT l k = true ↔ ∃ i j, i < k ∧ j < i ∧ twin (l.getD i default) (l.getD j default) = true) := fun k => by
    induction k with
    | zero => intro _; simp [twT]
    | succ k ih =>
      intro hk
      have hg : l[k]? = some (l.getD k default) := by rw [List.getElem?_eq_getElem (by omega)]; simp [List.getD, List.getElem?_eq_getElem (show k < l.length by omega)]
      rw [twT, hg, Bool.or_eq_true, ih (by omega)]
      simp only [List.any_eq_true]
      constructor
      · rintro (⟨i, j, h1, h2, h3⟩ | ⟨x, hx, ht⟩)
        · exact ⟨i, j, by omega, h2, h3⟩
        · obtain ⟨j, hj⟩ := List.getElem?_of_mem hx
          have hjl := (List.getElem?_eq_some_iff.1 hj).1
          rw [List.length_take] at hjl
          rw [List.getElem?_take_of_lt (by omega)] at hj
          exact ⟨k, j, by omega, by omega, by rw [getD_of hj]; exact ht⟩
      · rintro ⟨i, j, h1, h2, h3⟩
        by_cases e : i = k
        · subst e
          refine .inr ⟨l.getD j default, List.mem_of_getElem? (i := j) ?_, h3⟩
          rw [List.getElem?_take_of_lt h2, List.getElem?_eq_getElem (by omega)]
          simp [List.getD, List.getElem?_eq_getElem (show j < l.length by omega)]
        · exact .inl ⟨i, j, by omega, h2, h3⟩
  have tw : ∀ n o : Nt, twin n o = true ↔ o.day = n.day ∧ o.came = n.came ∧ o.fig ≠ n.fig := fun n o => by
    unfold twin; simp [and_assoc]
  rw [← Bool.not_eq_true, key _ (Nat.le_refl _)]
  constructor
  · intro h n hn o ho hd hc
    obtain ⟨i, hi, rfl⟩ := getD_of_mem hn
    obtain ⟨j, hj, rfl⟩ := getD_of_mem ho
    refine Classical.byContradiction fun hf => h ?_
    rcases Nat.lt_trichotomy i j with hij | hij | hij
    · exact ⟨j, i, hj, hij, (tw _ _).2 ⟨hd, hc, hf⟩⟩
    · subst hij; exact absurd rfl hf
    · exact ⟨i, j, hi, hij, (tw _ _).2 ⟨hd.symm, hc.symm, fun e => hf e.symm⟩⟩
  · rintro h ⟨i, j, hi, hj, ht⟩
    obtain ⟨h1, h2, h3⟩ := (tw _ _).1 ht
    exact h3 (h _ (getD_mem (by omega)) _ (getD_mem hi) h1 h2)
/-- The errors of an account, by its notes. -/
theorem acct_N {a : Ac} {m : List Nt} (h1 : a.ns.length ≤ 24) (h2 : m.length ≤ 24) (h : ∀ n, n ∈ m ↔ n ∈ a.ns) : acctB (acN a m) = acctB a := by
  have e1 : (acN a m).ns.all (noteOK (acN a m).start) = a.ns.all (noteOK a.start) := by
    rw [Bool.eq_iff_iff, List.all_eq_true, List.all_eq_true]
    exact ⟨fun g n hn => g n ((h n).2 hn), fun g n hn => g n ((h n).1 hn)⟩
  have e2 : sizesB (acN a m) = sizesB a := by
    unfold sizesB
    have : decide ((acN a m).ns.length ≤ 24) = decide (a.ns.length ≤ 24) := by rw [decide_eq_true h1]; exact decide_eq_true h2
    rw [this]; rfl
  unfold acctB
  rw [e1, e2]; rfl
theorem noTw_iff {l m : List Nt} (h : ∀ n, n ∈ m ↔ n ∈ l) : NoTw m ↔ NoTw l :=
  ⟨fun g n hn o ho => g n ((h n).2 hn) o ((h o).2 ho), fun g n hn o ho => g n ((h n).1 hn) o ((h o).1 ho)⟩
theorem start_N {a : Ac} {m : List Nt} (h1 : a.ns.length ≤ 24) (h2 : m.length ≤ 24) (h : ∀ n, n ∈ m ↔ n ∈ a.ns) : startE (acN a m) = startE a := by
  have e : twT (acN a m).ns (acN a m).ns.length = twT a.ns a.ns.length := by
    have := (twin_noTw (l := m)).trans ((noTw_iff h).trans twin_noTw.symm)
    show twT m m.length = _
    cases hx : twT m m.length <;> cases hy : twT a.ns a.ns.length <;> simp_all
  unfold startE
  rw [acct_N h1 h2 h, e]
theorem ord_of_pts {a : Ac} {m : List Nt} {known : Int} (h : pts (acN a m) known = pts a known) : ordB (acN a m) known = ordB a known := by unfold ordB; rw [h]
theorem start_ok {a : Ac} (h : startE a = 0) : Val a ∧ NoTw a.ns := by
  unfold startE at h
  split at h
  · cases h
  · split at h
    · cases h
    · rename_i h1 h2
      exact ⟨acct_val (by simpa using h1), twin_noTw.1 (by simpa using h2)⟩
/-- Accounts whose points are the same on all days have the same bills. -/
theorem open_N {a : Ac} {m : List Nt} (hs : startE (acN a m) = startE a) {known : Int} (hp : startE a = 0 → pts (acN a m) known = pts a known) (day : Int) : openE (acN a m) day known = openE a day known := by
  unfold openE
  rw [hs]
  by_cases h : startE a = 0
  · rw [ord_of_pts (hp h)]; rfl
  · rw [if_pos h, if_pos h]
theorem open_start {a : Ac} {day known : Int} (h : openE a day known = 0) : startE a = 0 := by
  unfold openE at h
  split at h
  · rename_i h1; exact absurd h h1
  · rename_i h1; simpa using h1
theorem used_NR {a : Ac} {m : List Nt} (hs : startE (acN a m) = startE a) {known : Int} (hp : startE a = 0 → pts (acN a m) known = pts a known) (day : Int) : usedR (acN a m) day known = usedR a day known := by
  have e := open_N hs hp day
  unfold usedR
  rw [e]
  split
  · rename_i h
    rw [used_N a m (hp (open_start h))]
  · rfl
theorem litTo_N {a : Ac} {m : List Nt} (hp : ∀ k, pts (acN a m) k = pts a k) : ∀ k, litTo (acN a m) k = litTo a k
  | 0 => rfl
  | k + 1 => used_N a m (hp _)
theorem penTo_N {a : Ac} {m : List Nt} (hp : ∀ k, pts (acN a m) k = pts a k) : ∀ k, penTo (acN a m) k = penTo a k
  | 0 => rfl
  | k + 1 => cost_N a m (hp _)
theorem corAt_N {a : Ac} {m : List Nt} (hp : ∀ k, pts (acN a m) k = pts a k) : ∀ k, corAt (acN a m) k = corAt a k
  | 0 => rfl
  | k + 1 => by
    show cost _ _ _ _ - cost _ _ _ _ = cost _ _ _ _ - cost _ _ _ _
    rw [cost_N a m (hp _), cost_N a m (hp _)]; rfl
theorem ords_N {a : Ac} {m : List Nt} (hp : ∀ k, pts (acN a m) k = pts a k) (l : List Int) : ordsB (acN a m) l = ordsB a l := by
  unfold ordsB
  have : ordB (acN a m) = ordB a := funext fun k => ord_of_pts (hp k)
  rw [this]
theorem bills_N {a : Ac} {m : List Nt} (hs : startE (acN a m) = startE a) (hp : startE a = 0 → ∀ k, pts (acN a m) k = pts a k) : billsR (acN a m) = billsR a := by
  by_cases h : startE a = 0
  · have g := hp h
    have e : billsE (acN a m) = billsE a := by
      unfold billsE
      rw [hs, ords_N g]; rfl
    have e2 : bllsT (acN a m) (acN a m).bs.length = bllsT a a.bs.length := by
      unfold bllsT
      refine List.map_congr_left fun k _ => ?_
      unfold blAt
      rw [litTo_N g, litTo_N g, penTo_N g, penTo_N g, corAt_N g]
    unfold billsR
    rw [e, e2]
  · have e1 : billsE a = startE a := if_pos h
    have e2 : billsE (acN a m) = startE a := by rw [← hs]; exact if_pos (by rw [hs]; exact h)
    unfold billsR
    rw [e1, e2, if_neg h, if_neg h]
theorem owed_N {a : Ac} {m : List Nt} (hs : startE (acN a m) = startE a) (hp : startE a = 0 → ∀ k, pts (acN a m) k = pts a k) (day : Int) : owedR (acN a m) day = owedR a day := by
  have eo := open_N (known := day) hs (fun h => hp h day) day
  have eb : bUp (acN a m) day = bUp a day := rfl
  by_cases h : openE a day day = 0
  · have g := hp (open_start h)
    have e : owedE (acN a m) day = owedE a day := by
      unfold owedE
      rw [eo, eb, ords_N g]; rfl
    unfold owedR
    rw [e, eb, penTo_N g, cost_N a m (g _)]
  · have e1 : owedE a day = openE a day day := if_pos h
    have e2 : owedE (acN a m) day = openE a day day := by rw [← eo]; exact if_pos (by rw [eo]; exact h)
    unfold owedR
    rw [e1, e2, if_neg h, if_neg h]
/-- The order of notes makes no difference, nor does one that is there twice. -/
theorem pts_same {a : Ac} {m : List Nt} (h1 : a.ns.length ≤ 24) (h2 : m.length ≤ 24) (h : ∀ n, n ∈ m ↔ n ∈ a.ns) (h0 : startE a = 0) (known : Int) : pts (acN a m) known = pts a known := by
  obtain ⟨v, ht⟩ := start_ok h0
  have h0m : startE (acN a m) = 0 := by rw [start_N h1 h2 h, h0]
  obtain ⟨vm, htm⟩ := start_ok h0m
  refine pts_of_perm v vm ((cntL_perm fun n => ?_).map _)
  have htm : NoTw m := htm
  rw [cntL_noTw htm, cntL_noTw ht, h n]
  exact ⟨fun g => ⟨g.1, g.2.1, fun o ho => g.2.2 o ((h o).2 ho)⟩, fun g => ⟨g.1, g.2.1, fun o ho => g.2.2 o ((h o).1 ho)⟩⟩

/-! ### A note more -/
theorem pts_more {a : Ac} {n : Nt} (h0 : startE a = 0) (h1 : startE (acN a (a.ns ++ [n])) = 0) {known : Int} (hk : known < n.came) : pts (acN a (a.ns ++ [n])) known = pts a known := by
  obtain ⟨v, ht⟩ := start_ok h0
  obtain ⟨vm, htm⟩ := start_ok h1
  refine pts_of_perm v vm ((cntL_perm fun x => ?_).map _)
  have htm : NoTw (a.ns ++ [n]) := htm
  rw [cntL_noTw htm, cntL_noTw ht]
  constructor
  · rintro ⟨g1, g2, g3⟩
    refine ⟨?_, g2, fun o ho => g3 o (List.mem_append.2 (.inl ho))⟩
    rcases List.mem_append.1 g1 with g | g
    · exact g
    · have := List.mem_singleton.1 g
      subst this; omega
  · rintro ⟨g1, g2, g3⟩
    refine ⟨List.mem_append.2 (.inl g1), g2, fun o ho hc => ?_⟩
    rcases List.mem_append.1 ho with g | g
    · exact g3 o g hc
    · have := List.mem_singleton.1 g
      subst this; omega
/-- A note of a day of its own, whenever it came, if it is known. -/
theorem pts_late {a : Ac} {n m : Nt} (hd : m.day = n.day) (hf : m.fig = n.fig) (hown : ∀ o ∈ a.ns, o.day ≠ n.day) (h0 : startE (acN a (a.ns ++ [n])) = 0) (h1 : startE (acN a (a.ns ++ [m])) = 0) {known : Int} (hn : n.came ≤ known) (hm : m.came ≤ known) :
    pts (acN a (a.ns ++ [m])) known = pts (acN a (a.ns ++ [n])) known := by
  obtain ⟨vn, htn⟩ := start_ok h0
  obtain ⟨vm, htm⟩ := start_ok h1
  have key : ∀ (x : Nt), x.day = n.day → x.came ≤ known → NoTw (a.ns ++ [x]) → ∀ y, y ∈ cntL (a.ns ++ [x]) known ↔ y = x ∨ (y ∈ a.ns ∧ y.came ≤ known ∧ ∀ o ∈ a.ns, ¬ (o.day = y.day ∧ o.came ≤ known ∧ y.came < o.came)) := fun x hxd hxk ht y => by
    rw [cntL_noTw ht]
    constructor
    · rintro ⟨g1, g2, g3⟩
      rcases List.mem_append.1 g1 with g | g
      · exact .inr ⟨g, g2, fun o ho => g3 o (List.mem_append.2 (.inl ho))⟩
      · exact .inl (List.mem_singleton.1 g)
    · rintro (rfl | ⟨g1, g2, g3⟩)
      · refine ⟨List.mem_append.2 (.inr (List.mem_singleton.2 rfl)), hxk, fun o ho hc => ?_⟩
        rcases List.mem_append.1 ho with g | g
        · exact hown o g (hc.1.trans hxd)
        · have := List.mem_singleton.1 g
          subst this; omega
      · refine ⟨List.mem_append.2 (.inl g1), g2, fun o ho hc => ?_⟩
        rcases List.mem_append.1 ho with g | g
        · exact g3 o g hc
        · have := List.mem_singleton.1 g
          subst this
          exact hown y g1 (hc.1.symm.trans hxd)
  refine List.Perm.eq_of_pairwise (le := fun p q : Pt => p.1 < q.1) (fun a b _ _ h h' => by omega) (pts_strict vm known) (pts_strict vn known) ?_
  refine (pts_perm _ known).trans (List.Perm.trans ?_ (pts_perm _ known).symm)
  refine List.Perm.cons _ ?_
  have nd : ∀ (x : Nt), (((cntL (a.ns ++ [x]) known).map ptOf).map Prod.fst).Nodup := fun x => by
    rw [List.map_map]
    exact (cntT_days (a.ns ++ [x]) known _ (Nat.le_refl _)).1
  refine (List.perm_ext_iff_of_nodup (nodup_of_map (nd m)) (nodup_of_map (nd n))).2 fun p => ?_
  have hpm : ptOf m = ptOf n := by unfold ptOf; rw [hd, hf]
  show p ∈ (cntL (a.ns ++ [m]) known).map ptOf ↔ p ∈ (cntL (a.ns ++ [n]) known).map ptOf
  rw [List.mem_map, List.mem_map]
  constructor
  · rintro ⟨y, hy, rfl⟩
    rcases (key m hd hm htm y).1 hy with rfl | g
    · exact ⟨n, (key n rfl hn htn n).2 (.inl rfl), hpm.symm⟩
    · exact ⟨y, (key n rfl hn htn y).2 (.inr g), rfl⟩
  · rintro ⟨y, hy, rfl⟩
    rcases (key n rfl hn htn y).1 hy with rfl | g
    · exact ⟨m, (key m hd hm htm m).2 (.inl rfl), hpm⟩
    · exact ⟨y, (key m hd hm htm y).2 (.inr g), rfl⟩
end Go.Bi
namespace Go.Bi
open Go.Mw
def kn (known : Int) (d : Dp) : Bool := decide (d.day ≤ known)
theorem dsg {l : List Dp} {k : Nat} (h : k < l.length) : l[k]? = some (l.getD k default) := by rw [List.getElem?_eq_getElem h]; simp [List.getD, List.getElem?_eq_getElem h]
theorem tells_all (a : Ac) (known : Int) : tells a known (-1) = a.ds.filter (kn known) := by
  have key : ∀ k, k ≤ a.ds.length → telT a known (-1) k = (a.ds.take k).filter (kn known) := fun k => by
    induction k with
    | zero => intro _; simp [telT]
    | succ k ih =>
      intro hk
      rw [telT_succ, ih (by omega), List.take_succ, dsg (by omega), List.filter_append]
      have hne : decide ((k : Int) ≠ -1) = true := decide_eq_true (by omega)
      unfold tellB
      rw [hne, Bool.and_true]
      show (if kn known (a.ds.getD k default) = true then _ else _) = _
      generalize a.ds.getD k default = x
      cases hc : kn known x <;> simp [hc]
  unfold tells
  rw [key _ (Nat.le_refl _), List.take_length]
theorem tells_but (a : Ac) (known : Int) {i : Nat} (hi : i < a.ds.length) : tells a known i = (a.ds.take i ++ a.ds.drop (i + 1)).filter (kn known) := by
  have k1 : ∀ k, k ≤ i → telT a known i k = (a.ds.take k).filter (kn known) := fun k => by
    induction k with
    | zero => intro _; simp [telT]
    | succ k ih =>
      intro hk
      rw [telT_succ, ih (by omega), List.take_succ, dsg (by omega), List.filter_append]
      have hne : decide ((k : Int) ≠ (i : Int)) = true := decide_eq_true (by omega)
      unfold tellB
      rw [hne, Bool.and_true]
      show (if kn known (a.ds.getD k default) = true then _ else _) = _
      generalize a.ds.getD k default = x
      cases hc : kn known x <;> simp [hc]
  have k2 : ∀ j, i + 1 + j ≤ a.ds.length → telT a known i (i + 1 + j) = (a.ds.take i ++ (a.ds.drop (i + 1)).take j).filter (kn known) := fun j => by
    induction j with
    | zero =>
      intro _
      have hne : tellB a known i i = false := by unfold tellB; simp
      rw [Nat.add_zero, telT_succ, if_neg (by rw [hne]; decide), k1 i (Nat.le_refl _)]
      simp
    | succ j ih =>
      intro hk
      have hg : (a.ds.drop (i + 1))[j]? = some (a.ds.getD (i + 1 + j) default) := by rw [List.getElem?_drop]; exact dsg (by omega)
      rw [show i + 1 + (j + 1) = (i + 1 + j) + 1 from rfl, telT_succ, ih (by omega), List.take_succ, hg, ← List.append_assoc, List.filter_append]
      have hne : decide (((i + 1 + j : Nat) : Int) ≠ (i : Int)) = true := decide_eq_true (by omega)
      unfold tellB
      rw [hne, Bool.and_true]
      show (if kn known (a.ds.getD (i + 1 + j) default) = true then _ else _) = _
      generalize a.ds.getD (i + 1 + j) default = x
      cases hc : kn known x <;> simp [hc]
  unfold tells
  have := k2 (a.ds.length - (i + 1)) (by omega)
  have ht : (a.ds.drop (i + 1)).take (a.ds.length - (i + 1)) = a.ds.drop (i + 1) := List.take_of_length_le (by rw [List.length_drop]; omega)
  rw [show i + 1 + (a.ds.length - (i + 1)) = a.ds.length from by omega, ht] at this
  exact this
theorem ds_split {l : List Dp} {i : Nat} (hi : i < l.length) : l = l.take i ++ [l.getD i default] ++ l.drop (i + 1) := by
  have h1 : l.drop i = l.getD i default :: l.drop (i + 1) := by
    have := List.drop_eq_getElem_cons hi
    rw [this]
    have hg := dsg hi
    rw [List.getElem?_eq_getElem hi] at hg
    rw [Option.some.inj hg]
  conv => lhs; rw [← List.take_append_drop i l, h1]
  simp
/-- The account without a dispute. -/
def woD (a : Ac) (i : Nat) : Ac := acD a (a.ds.take i ++ a.ds.drop (i + 1))
theorem tells_wo (a : Ac) (known : Int) {i : Nat} (hi : i < a.ds.length) : tells (woD a i) known (-1) = tells a known i := by
  rw [tells_all, tells_but a known hi]; rfl
theorem used_wo (a : Ac) (known day : Int) {i : Nat} (hi : i < a.ds.length) : used (woD a i) known (-1) day = used a known i day := by
  rw [used_G, used_G, tells_wo a known hi]; rfl
theorem cost_wo (a : Ac) (known day : Int) {i : Nat} (hi : i < a.ds.length) : cost (woD a i) known (-1) day = cost a known i day := by
  rw [cost_G, cost_G, tells_wo a known hi]
  exact costG_D a _ _ _ _
theorem tells_in (a : Ac) {known : Int} {i : Nat} (hi : i < a.ds.length) (hk : (a.ds.getD i default).day ≤ known) : ∃ A B, tells a known (-1) = A ++ [a.ds.getD i default] ++ B ∧ tells a known i = A ++ B := by
  refine ⟨(a.ds.take i).filter (kn known), (a.ds.drop (i + 1)).filter (kn known), ?_, ?_⟩
  · rw [tells_all]
    conv => lhs; rw [ds_split hi]
    rw [List.filter_append, List.filter_append]
    have hkn : kn known (a.ds.getD i default) = true := decide_eq_true hk
    generalize a.ds.getD i default = x at *
    simp [hkn]
  · rw [tells_but a known hi, List.filter_append]
theorem tells_out (a : Ac) {known : Int} {i : Nat} (hi : i < a.ds.length) (hk : known < (a.ds.getD i default).day) : tells a known (-1) = tells a known i := by
  rw [tells_all, tells_but a known hi]
  conv => lhs; rw [ds_split hi]
  rw [List.filter_append, List.filter_append, List.filter_append]
  have hkn : kn known (a.ds.getD i default) = false := decide_eq_false (by omega)
  generalize a.ds.getD i default = x at *
  simp [hkn]

section
variable {a : Ac} {l : List Pt} {A B : List Dp} {d : Dp}
theorem usedG_with (day : Int) : usedG a l (A ++ [d] ++ B) day = usedG a l (A ++ B) day - tOff a l day d := by
  unfold usedG
  rw [usedO_app, usedO_app, usedO_app]
  have e : ∀ n, usedO a l day n [d] = n - tOff a l day d := fun n => rfl
  rw [e]
  have := usedO_add a l day (-tOff a l day d) B (usedO a l day (shw a l day - a.fig) A)
  rw [show usedO a l day (shw a l day - a.fig) A + -tOff a l day d = usedO a l day (shw a l day - a.fig) A - tOff a l day d from rfl] at this
  rw [this]; rfl
theorem feeO_with (n : Int) : feeO n (A ++ [d] ++ B) = feeO n (A ++ B) + tFee d := by
  rw [feeO_app, feeO_app, feeO_app]
  have e : ∀ n, feeO n [d] = n + tFee d := fun n => rfl
  rw [e, feeO_add]
end
/-- A dispute that is refused costs its fee, and changes nothing else. -/
theorem settle_no {a : Ac} {i : Nat} (hi : i < a.ds.length) (hu : uph (a.ds.getD i default) = false) {known : Int} (hk : (a.ds.getD i default).day ≤ known) (day : Int) :
    used a known (-1) day = used a known i day ∧ cost a known (-1) day = cost a known i day + (a.ds.getD i default).fee := by
  obtain ⟨A, B, h1, h2⟩ := tells_in a hi hk
  have ht : ∀ l x, tOff a l x (a.ds.getD i default) = 0 := fun l x => if_neg (by rw [hu]; decide)
  have hf : tFee (a.ds.getD i default) = (a.ds.getD i default).fee := if_neg (by rw [hu]; decide)
  have hus : ∀ x, usedG a (pts a known) (tells a known (-1)) x = usedG a (pts a known) (tells a known i) x := fun x => by
    rw [h1, h2, usedG_with, ht, Int.sub_zero]
  refine ⟨by rw [used_G, used_G, hus], ?_⟩
  have htr : ∀ j, trCostG a (pts a known) (tells a known (-1)) day j = trCostG a (pts a known) (tells a known i) day j := fun j => by
    unfold trCostG; rw [hus, hus]
  have hct : ∀ k, costTG a (pts a known) (tells a known (-1)) day k = costTG a (pts a known) (tells a known i) day k := fun k => by
    induction k with
    | zero => rfl
    | succ k ih => rw [costTG, costTG, ih, htr]
  rw [cost_G, cost_G]
  unfold costG
  rw [hct, h1, feeO_with, ← h2, hf]
theorem yD_up {d : Dp} (he : 0 ≤ d.err) {x y : Int} (hx : 0 ≤ x) (hxy : x ≤ y) : yD d y - yD d x ≤ y - x := by
  unfold yD
  rw [Int.tdiv_eq_ediv_of_nonneg (by omega), Int.tdiv_eq_ediv_of_nonneg (by omega)]
  have h1 : 1000 * y ≤ 1000 * x + (1000 + d.err) * (y - x) := by
    have : 1000 * (y - x) ≤ (1000 + d.err) * (y - x) := Int.mul_le_mul_of_nonneg_right (by omega) (by omega)
    omega
  have h2 := Int.ediv_le_ediv (by omega : 0 < 1000 + d.err) h1
  rw [Int.add_mul_ediv_left _ _ (by omega)] at h2
  omega
theorem yD_down {d : Dp} (he : -500 ≤ d.err ∧ d.err ≤ 0) {x y : Int} (hx : 0 ≤ x) (hxy : x ≤ y) : y - x ≤ yD d y - yD d x := by
  unfold yD
  rw [Int.tdiv_eq_ediv_of_nonneg (by omega), Int.tdiv_eq_ediv_of_nonneg (by omega)]
  have h1 : 1000 * x + (1000 + d.err) * (y - x) ≤ 1000 * y := by
    have : (1000 + d.err) * (y - x) ≤ 1000 * (y - x) := Int.mul_le_mul_of_nonneg_right (by omega) (by omega)
    omega
  have h2 := Int.ediv_le_ediv (by omega : 0 < 1000 + d.err) h1
  rw [Int.add_mul_ediv_left _ _ (by omega)] at h2
  omega
/-- A dispute that is upheld: who was shown too much pays no more, and who was shown too little, no less. -/
theorem settle_yes {a : Ac} (v : Val a) {i : Nat} (hi : i < a.ds.length) (hu : uph (a.ds.getD i default) = true) {known : Int} (hk : (a.ds.getD i default).day ≤ known) (ho : ordB a known = true) {day : Int} (hd : a.start ≤ day ∧ day ≤ 131072) :
    (0 < (a.ds.getD i default).err → cost a known (-1) day ≤ cost a known i day) ∧ ((a.ds.getD i default).err < 0 → cost a known i day ≤ cost a known (-1) day) := by
  obtain ⟨A, B, h1, h2⟩ := tells_in a hi hk
  have hm := getD_mem (d := default) hi
  generalize a.ds.getD i default = d at *
  have hv := mem_val v hm
  have r := rise_of v ho
  have hst := v.start
  have hf : tFee d = 0 := if_pos hu
  have hus : ∀ x, used a known (-1) x = used a known i x - (xD a (pts a known) x d - yD d (xD a (pts a known) x d)) := fun x => by
    rw [used_G, used_G, h1, h2, usedG_with]
    have : tOff a (pts a known) x d = offD a (pts a known) x d := if_pos hu
    rw [this, offD_xy]
  have hfee : ∀ n, feeO n (tells a known (-1)) = feeO n (tells a known i) := fun n => by rw [h1, h2, feeO_with, hf, Int.add_zero]
  have tr : ∀ j, j < a.ts.length → (0 < d.err → trCost a known (-1) day j ≤ trCost a known i day j) ∧ (d.err < 0 → trCost a known i day j ≤ trCost a known (-1) day j) := fun j hj => by
    have hb := trFr_bnd v hj
    have htd := trTo_day a day j
    have hj1 : a.ts[j]? = some (a.ts.getD j default) := by rw [List.getElem?_eq_getElem hj]; simp [List.getD, List.getElem?_eq_getElem hj]
    have hp := (v.trf j _ hj1).2.1
    unfold trCost
    split
    · rename_i hl
      have u1 := (used_step v (but := -1) ho (d1 := trFr a j) (d2 := trTo a day j) hb.1 (by omega) (by omega)).1
      have u2 := (used_step v (but := i) ho (d1 := trFr a j) (d2 := trTo a day j) hb.1 (by omega) (by omega)).1
      have xs := xD_step v r (d := d) (by omega) (d1 := trFr a j) (d2 := trTo a day j) hb.1 (by omega) (by omega)
      have e1 := hus (trTo a day j)
      have e2 := hus (trFr a j)
      constructor
      · intro he
        have y := yD_up (d := d) (by omega) xs.1 xs.2
        exact tdiv_mono (Int.mul_nonneg (by omega) hp.1) (Int.mul_le_mul_of_nonneg_right (by omega) hp.1) (by omega)
      · intro he
        have y := yD_down (d := d) (by omega) xs.1 xs.2
        exact tdiv_mono (Int.mul_nonneg (by omega) hp.1) (Int.mul_le_mul_of_nonneg_right (by omega) hp.1) (by omega)
    · exact ⟨fun _ => Int.le_refl _, fun _ => Int.le_refl _⟩
  have ct : ∀ k, k ≤ a.ts.length → (0 < d.err → costT a known (-1) day k ≤ costT a known i day k) ∧ (d.err < 0 → costT a known i day k ≤ costT a known (-1) day k) := fun k => by
    induction k with
    | zero => intro _; exact ⟨fun _ => Int.le_refl _, fun _ => Int.le_refl _⟩
    | succ k ih =>
      intro hk
      have g1 := ih (by omega)
      have g2 := tr k (by omega)
      constructor
      · intro he
        have := g1.1 he; have := g2.1 he
        rw [costT, costT]; omega
      · intro he
        have := g1.2 he; have := g2.2 he
        rw [costT, costT]; omega
  have c := ct a.ts.length (Nat.le_refl _)
  unfold cost
  rw [hfee, feeO_eq, feeO_eq (tells a known i) (costT a known i day _)]
  constructor
  · intro he; have := c.1 he; omega
  · intro he; have := c.2 he; omega
theorem ds_pair {a : Ac} (v : Val a) : a.ds.Pairwise fun d e => d.to ≤ e.fr := by
  have key : ∀ i j, i < j → j < a.ds.length → (a.ds.getD i default).to ≤ (a.ds.getD j default).fr := fun i j => by
    induction j with
    | zero => intro h; omega
    | succ j ih =>
      intro hij hj
      have h2 := (v.dsp (j + 1) _ (dsg hj)).2.2.2.2 j _ rfl (dsg (by omega))
      by_cases e : i = j
      · subst e; exact h2
      · have h1 := ih (by omega) (by omega)
        have h3 := (v.dsp j _ (dsg (by omega))).1
        omega
  rw [List.pairwise_iff_getElem]
  intro i j hi hj hij
  have := key i j hij hj
  have e : ∀ k (hk : k < a.ds.length), a.ds.getD k default = a.ds[k] := fun k hk => by simp [List.getD, List.getElem?_eq_getElem hk]
  rw [e i hi, e j hj] at this
  exact this
theorem pairsB_of {s : Int} {l : List Dp} (h1 : ∀ d ∈ l, dspP s d = true ∧ dspQ d = true) (h2 : l.Pairwise fun d e => d.to ≤ e.fr) : pairsB (dspOK s) l = true := by
  unfold pairsB
  rw [pairsT_iff (Nat.le_refl _)]
  intro i x hi hx
  obtain ⟨g1, g2⟩ := h1 x (List.mem_of_getElem? hx)
  unfold dspOK
  rw [g1, g2]
  cases i with
  | zero => rfl
  | succ i =>
    have hl : i < l.length := by omega
    show (match l[i]? with | none => true | some b => decide (b.to ≤ x.fr)) = true
    rw [List.getElem?_eq_getElem hl]
    obtain ⟨hi2, rfl⟩ := List.getElem?_eq_some_iff.1 hx
    rw [List.pairwise_iff_getElem] at h2
    exact decide_eq_true (h2 i (i + 1) hl hi2 (by omega))
theorem start_sub {a : Ac} {l : List Dp} (h : startE a = 0) (hs : l.Sublist a.ds) : startE (acD a l) = 0 := by
  obtain ⟨v, ht⟩ := start_ok h
  have hA : acctB a = true := by
    unfold startE at h
    split at h
    · cases h
    · rename_i h1; simpa using h1
  have hds : ∀ d ∈ l, dspP a.start d = true ∧ dspQ d = true := fun d hd => by
    have hd2 := hs.subset hd
    obtain ⟨i, hi⟩ := List.getElem?_of_mem hd2
    unfold acctB at hA
    simp only [Bool.and_eq_true] at hA
    have := (pairsT_iff (Nat.le_refl _)).1 hA.2 i d (List.getElem?_eq_some_iff.1 hi).1 hi
    unfold dspOK at this
    simp only [Bool.and_eq_true] at this
    exact this.1
  have hp := pairsB_of hds ((ds_pair v).sublist hs)
  have hA2 : acctB (acD a l) = true := by
    unfold acctB at hA ⊢
    simp only [Bool.and_eq_true] at hA ⊢
    obtain ⟨⟨⟨⟨⟨h1, h2⟩, h3⟩, h4⟩, h5⟩, h6⟩ := hA
    refine ⟨⟨⟨⟨⟨h1, ?_⟩, h3⟩, h4⟩, h5⟩, hp⟩
    unfold sizesB at h2 ⊢
    simp only [Bool.and_eq_true, decide_eq_true_eq] at h2 ⊢
    exact ⟨h2.1, Nat.le_trans hs.length_le h2.2⟩
  unfold startE
  rw [if_neg (by rw [hA2]; decide), if_neg]
  have : twT (acD a l).ns (acD a l).ns.length = false := twin_noTw.2 ht
  rw [this]; decide
theorem wo_sub (a : Ac) (i : Nat) : (a.ds.take i ++ a.ds.drop (i + 1)).Sublist a.ds := by
  have h : (a.ds.take i ++ a.ds.drop i) = a.ds := List.take_append_drop i a.ds
  conv => rhs; rw [← h]
  refine List.Sublist.append_left ?_ _
  have : a.ds.drop (i + 1) = (a.ds.drop i).drop 1 := by rw [List.drop_drop]
  rw [this]
  exact List.drop_sublist _ _
theorem open_D {a : Ac} {l : List Dp} (h : startE a = 0) (h2 : startE (acD a l) = 0) (day known : Int) : openE (acD a l) day known = openE a day known := by
  unfold openE
  rw [h, h2]; rfl
theorem costR_wo {a : Ac} {i : Nat} (hi : i < a.ds.length) (h : startE a = 0) (day known : Int) : costR (woD a i) day known = if openE a day known = 0 then (cost a known i day, 0) else (0, openE a day known) := by
  have e := open_D h (start_sub h (wo_sub a i)) day known
  unfold costR
  have e2 : openE (woD a i) day known = openE a day known := e
  rw [e2, cost_wo a known day hi]
theorem usedR_wo {a : Ac} {i : Nat} (hi : i < a.ds.length) (h : startE a = 0) (day known : Int) : usedR (woD a i) day known = if openE a day known = 0 then (used a known i day, 0) else (0, openE a day known) := by
  have e := open_D h (start_sub h (wo_sub a i)) day known
  unfold usedR
  have e2 : openE (woD a i) day known = openE a day known := e
  rw [e2, used_wo a known day hi]
theorem costR_out {a : Ac} {i : Nat} (hi : i < a.ds.length) (h : startE a = 0) (day : Int) {known : Int} (hk : known < (a.ds.getD i default).day) : costR (woD a i) day known = costR a day known := by
  rw [costR_wo hi h]
  unfold costR
  rw [cost_G a known i, cost_G a known (-1), tells_out a hi hk]
end Go.Bi
namespace Go.Mw
open Go.Proofs Go.Bi
theorem follows_mixed : Try.prog.follows .mixedOrders = true := by kernel_rfl
abbrev D.i (n : Int) : D := .raw (.int .i64 n)
@[go_sem] def encInt (n : Int) : List D := [.i n]
abbrev intsD (l : List Int) : D := .sl 1 (l.map encInt)
@[go_sem] def encTrf (t : Trf) : List D := [.i t.fr, .i t.pence]
@[go_sem] def encNt (n : Nt) : List D := [.i n.day, .i n.fig, .i n.came]
@[go_sem] def encDp (d : Dp) : List D := [.i d.day, .i d.fr, .i d.to, .i d.err, .i d.alw, .i d.fee]
@[go_sem] def encBl (b : Bl) : List D := [.i b.lit, .i b.pence, .i b.corr]
@[go_sem] def encPt (p : Pt) : List D := [.i p.1, .i p.2]
abbrev trfV (t : Trf) : AV := .val true ((encTrf t).map .d)
abbrev ntV (n : Nt) : AV := .val true ((encNt n).map .d)
abbrev dpV (d : Dp) : AV := .val true ((encDp d).map .d)
abbrev tsD (l : List Trf) : D := .sl 2 (l.map encTrf)
abbrev nsD (l : List Nt) : D := .sl 3 (l.map encNt)
abbrev dsD (l : List Dp) : D := .sl 6 (l.map encDp)
abbrev blsD (l : List Bl) : D := .sl 3 (l.map encBl)
abbrev ptsD (l : List Pt) : D := .sl 2 (l.map encPt)
@[go_sem] def encAc (a : Ac) : List D := [.i a.start, .i a.fig, .i a.daily, .i a.stand, tsD a.ts, intsD a.bs, nsD a.ns, dsD a.ds]
abbrev acV (a : Ac) : AV := .val true ((encAc a).map .d)
abbrev tupI (l : List Int) : AV := .tup (l.map fun n => (false, [.d (.i n)]))
/-- A pointer to an element, or none. -/
def befD {α : Type} (enc : α → List D) : Option α → AV
  | none => .leaf (.d (.raw (.pointer none)))
  | some x => .leaf (.d (.pt (enc x)))
end Go.Mw
namespace Go.Mw
open Go.RowKit Go.Proofs Go.Shelf Go.Sort

/-- An element's integers, as data and as values. -/
abbrev dOf (l : List Int) : List D := l.map fun n => D.raw (.int .i64 n)
abbrev vOf (l : List Int) : List Value := l.map fun n => Value.int .i64 n
theorem dOf_vals {S : Settled} {w : World} : ∀ {l : List Int} {xs : List Value}, All2 (RepD S w) (dOf l) xs → xs = vOf l
  | [], [], _ => rfl
  | n :: l, x :: xs, h => by
    have h1 : RepD S w (.raw (.int .i64 n)) x := h.1
    have : x = .int .i64 n := by cases h1; rfl
    subst this
    rw [dOf_vals h.2]; rfl
  | [], _ :: _, h => h.elim
  | _ :: _, [], h => h.elim
theorem dOf_rep (S : Settled) (w : World) : ∀ l : List Int, All2 (RepD S w) (dOf l) (vOf l)
  | [] => trivial
  | n :: l => ⟨.raw _ rfl, dOf_rep S w l⟩
theorem flat_d {α : Type} (enc : α → List Int) : ∀ l : List α, (l.map fun x => dOf (enc x)).flatten = dOf (l.map enc).flatten
  | [] => rfl
  | x :: l => by simp only [List.map_cons, List.flatten_cons, List.map_append]; rw [flat_d enc l]
theorem flat_v {α : Type} (enc : α → List Int) : ∀ l : List α, (l.map fun x => vOf (enc x)).flatten = vOf (l.map enc).flatten
  | [] => rfl
  | x :: l => by simp only [List.map_cons, List.flatten_cons, List.map_append]; rw [flat_v enc l]
theorem flatK_list {α : Type} [Inhabited α] (enc : α → List Value) (k : Nat) (hk : ∀ x, (enc x).length = k) (d : Array α) : (Go.Sort.flatK enc k d).toList = (d.toList.map enc).flatten := by
  have hl : ∀ x ∈ d.toList.map enc, x.length = k := fun x hx => by obtain ⟨y, _, rfl⟩ := List.mem_map.1 hx; exact hk y
  apply List.ext_getElem?
  intro t
  by_cases ht : t < d.size * k
  · have k0 : 0 < k := by rcases Nat.eq_zero_or_pos k with h | h
                          · subst h; simp at ht
                          · exact h
    have hi : t / k < d.size := (Nat.div_lt_iff_lt_mul k0).2 ht
    have hm : t % k < k := Nat.mod_lt _ k0
    have he : (d.toList.map enc)[t / k]? = some (enc d[t / k]!) := by
      rw [List.getElem?_map, List.getElem?_eq_getElem (by simpa using hi), getElem!_pos d _ hi]; rfl
    have hv : (enc d[t / k]!)[t % k]? = some (enc d[t / k]!)[t % k]! := by
      have : t % k < (enc d[t / k]!).length := by rw [hk]; exact hm
      rw [List.getElem?_eq_getElem this, getElem!_pos (enc d[t / k]!) (t % k) this]
    have h := flat_get hl he hv
    have e : t / k * k + t % k = t := by rw [Nat.mul_comm]; exact Nat.div_add_mod t k
    rw [e] at h
    rw [h, Array.getElem?_toList, Array.getElem?_eq_getElem (by simpa using ht)]
    have := get_flatK enc k d t ht
    rw [getElem!_pos _ _ (by simpa using ht)] at this
    rw [this]
  · rw [List.getElem?_eq_none (by simp; omega), List.getElem?_eq_none]
    rw [flat_len hl]; simp; omega

section
variable {P : Program} {ρ : Ren} {α : Type} [Inhabited α]
set_option maxHeartbeats 2000000 in
/-- slices.SortFunc, called with an array that is lent: it comes back as the one row in order. -/
theorem con_sort (L : SlLaysF0.n6 P ρ) (k e : Nat) (k0 : 0 < k) (aE : ∀ w, (isAgg (ρ.t 24)).run P w = .ok true w) (zE : ∀ w, (Go.sizeOf (ρ.t 24)).run P w = .ok k w) (enc : α → List Int) (hk : ∀ x, (enc x).length = k) (cf : α → α → Int) (hO : SWO (ltOf cf)) (g : FuncId)
    (eg : ∀ args w, (callFunc g args).run P w = .ok (.enter g args) w)
    (hcmp : ∀ x y W, Calls P g #[.agg (vOf (enc x)).toArray, .agg (vOf (enc y)).toArray] W fun e w' => e = .returned (.int .i64 (cf x y)) ∧ ∃ q os', w' = Go.Sort.grow (W.drewN q) os')
    (l m : List α) (hne : l ≠ []) (hlen : l.length < 4611686018427387904) (hm : ∀ d : List α, d.Perm l → d.Pairwise (fun a b => ltOf cf b a = false) → d = m) :
    Con P (ρ.f 6) [.leaf (.own 901 0 l.length l.length), .leaf (.d (.fn g []))] [(901, .arr e k (l.map fun x => dOf (enc x)))] (.ret (.tup []) [(901, .arr e k (m.map fun x => dOf (enc x)))]) := by
  intro E S M ι w vs hS hM hobj _ hown _ hargs hJ
  rw [callsIn_wide]
  obtain ⟨xs, hrow, hxs, hke, _, hfree⟩ := hobj 901 (.arr e k (l.map fun x => dOf (enc x))) (by simp [look])
  obtain ⟨v1, v2, rfl⟩ : ∃ v1 v2, vs = [v1, v2] := by
    match vs, hargs with
    | [v1, v2], _ => exact ⟨v1, v2, rfl⟩
    | [], h => exact h.elim
    | [_], h => exact h.2.elim
    | _ :: _ :: _ :: _, h => exact h.2.2.elim
  obtain ⟨ha1, ha2, _⟩ := hargs
  have hv1 : v1 = ι 901 := by
    obtain ⟨l0, hl0, ha1⟩ := ha1
    cases hl0
    obtain ⟨_, e0, k1, es0, he0, _, h0⟩ := ha1
    have : look [(901, AO.arr e k (l.map fun x => dOf (enc x)))] 901 = some (AO.arr e k (l.map fun x => dOf (enc x))) := by simp [look]
    rw [this] at he0
    cases he0
    exact (h0 (by simp)).2.1 rfl rfl
  have hv2 : v2 = .func (.func g) #[] #[] := by
    obtain ⟨l0, hl0, h0⟩ := ha2
    cases hl0
    have h0 : RepD S w (.fn g []) v2 := h0
    cases h0 with
    | fn f ds vals hl hr =>
      have : vals = [] := by cases vals <;> simp_all
      subst this; rfl
  subst hv1 hv2
  have hn0 : l.length ≠ 0 := fun h => hne (List.length_eq_zero_iff.1 h)
  have hxl : xs = vOf (l.map enc).flatten := by
    rw [flat_d] at hxs
    exact dOf_vals hxs
  obtain ⟨hsz, hr⟩ := hrow
  simp only [List.length_map] at hsz hr
  rcases hr with ⟨_, h0⟩ | ⟨b, cap, cur, hτ, _, hb, hcap, hmax, hcs, htk⟩
  · exact absurd h0 hn0
  have hblk : b < w.heap.size := by
    rcases Nat.lt_or_ge b w.heap.size with h | h
    · exact h
    · rw [Array.getElem?_eq_none h] at hb; cases hb
  have hflat : (Go.Sort.flatK (fun x => vOf (enc x)) k l.toArray).toList = xs := by
    rw [flatK_list _ k (fun x => by simp [hk]), hxl, flat_v]
  have hfsz : (Go.Sort.flatK (fun x => vOf (enc x)) k l.toArray).size = l.length * k := by simp
  have hH : HoldsK (fun x => vOf (enc x)) k w b 0 l.toArray := by
    intro j hj
    rw [hfsz] at hj
    have hj2 : j < cur.size := by
      rw [hcs]; exact Nat.lt_of_lt_of_le hj (Nat.mul_le_mul_right k hcap)
    have hx : xs[j]? = some (Go.Sort.flatK (fun x => vOf (enc x)) k l.toArray)[j]! := by
      rw [← hflat, Array.getElem?_toList, Array.getElem?_eq_getElem (by rw [hfsz]; exact hj), getElem!_pos _ _ (by rw [hfsz]; exact hj)]
    rw [← htk, List.getElem?_take_of_lt hj, Array.getElem?_toList] at hx
    constructor
    · unfold World.cell?
      simp only [hb, Nat.zero_add]
      simpa using hx
    · unfold World.frozen?
      simp [hb]
  have hC : CmpLays P g #[] (fun x => vOf (enc x)) k cf b 0 l.toArray.size w := fun mm os dk _ x y => hcmp x y _
  have hcon := AnyQ.slices_SortFunc L k aE zE (fun x => vOf (enc x)) (fun x => by simp [hk]) (fun x v hv => by obtain ⟨n, _, rfl⟩ := List.mem_map.1 hv; rfl) cf hO g #[] b 0 cap l.toArray w eg hC hH hblk (by simpa using hlen)
  have hargs2 : #[Value.slice (some ⟨b, 0, none⟩) l.toArray.size cap, .func (.func g) #[] #[]] = [ι 901, .func (.func g) #[] #[]].toArray := by rw [hτ]; simp
  rw [hargs2] at hcon
  refine hcon.mono ?_
  rintro en w' ⟨rfl, d', n, os, ⟨hd1, _, hd3⟩, hd4, rfl⟩
  have hdl : d'.toList = m := by
    refine hm _ ?_ ?_
    · have e1 : (d'.extract 0 l.toArray.size).toList = d'.toList := by simp [← hd1]
      have e2 : (l.toArray.extract 0 l.toArray.size).toList = l := by simp
      rw [e1, e2] at hd3
      exact hd3
    · rw [List.pairwise_iff_getElem]
      intro i j hi hj hij
      have hj2 : j < d'.size := by simpa using hj
      have := hd4 i j (Nat.zero_le _) hij (by rw [← hd1]; exact hj2)
      rw [getElem!_pos d' i (by omega), getElem!_pos d' j hj2] at this
      simpa using this
  have hml : m.length = l.length := by rw [← hdl]; simpa using hd1
  have hfl' : (Go.Sort.flatK (fun x => vOf (enc x)) k d').toList = vOf (m.map enc).flatten := by rw [flatK_list _ k (fun x => by simp [hk]), hdl, flat_v]
  have hfs' : (Go.Sort.flatK (fun x => vOf (enc x)) k d').size = l.length * k := by rw [size_flatK, hd1]; simp
  have hheap : ∀ b', b' < w.heap.size → (sortWorldK (fun x => vOf (enc x)) k w b 0 n d' os).heap[b']? = (w.heap.modify b (onCells (putCells id 0 (Go.Sort.flatK (fun x => vOf (enc x)) k d'))))[b']? := fun b' hb' => by
    show ((w.heap.modify b _) ++ os)[b']? = _
    rw [Array.getElem?_append_left (by simpa using hb')]
  have hoth : ∀ b', b' < w.heap.size → b' ≠ b → (sortWorldK (fun x => vOf (enc x)) k w b 0 n d' os).heap[b']? = w.heap[b']? := fun b' hb' hne => by
    rw [hheap b' hb', Array.getElem?_modify, if_neg (Ne.symm hne)]
  have hbb : (sortWorldK (fun x => vOf (enc x)) k w b 0 n d' os).heap[b]? = some (.cells (putCells id 0 (Go.Sort.flatK (fun x => vOf (enc x)) k d') cur) e (0, 0)) := by
    rw [hheap b hblk, Array.getElem?_modify, if_pos rfl, hb]; rfl
  have hsize : w.heap.size ≤ (sortWorldK (fun x => vOf (enc x)) k w b 0 n d' os).heap.size := by
    show _ ≤ ((w.heap.modify b _) ++ os).size
    rw [Array.size_append, Array.size_modify]; omega
  have hMb : M b := hown 901 (.arr e k (l.map fun x => dOf (enc x))) b (by simp [look]) (by rw [hτ]; rfl)
  have hSb : ∀ off, ¬ S b off := hfree b (by rw [hτ]; rfl)
  have hcell : ∀ b' o, S b' o → (sortWorldK (fun x => vOf (enc x)) k w b 0 n d' os).cell? ⟨b', o, none⟩ = w.cell? ⟨b', o, none⟩ := fun b' o hs => by
    unfold World.cell?
    simp only
    rw [hoth b' (hS b' o hs) (fun e => hSb o (e ▸ hs))]
  have hfr : Fr S M w (sortWorldK (fun x => vOf (enc x)) k w b 0 n d' os) := ⟨rfl, rfl, rfl, hsize, fun b' hb' hn => hoth b' hb' (fun e => hn (e ▸ hMb)), hcell⟩
  refine ⟨.tuple #[], .tup [], _, S, M, ι, rfl, .ret _ _, ?_, ?_⟩
  · exact E.step hJ hfr (fun _ h => h) (fun _ h => .inl h) (fun _ _ h => h) (fun _ _ h => .inl h)
  · refine ⟨fun _ _ h => h, fun _ _ h => .inl h, fun b' o h => Nat.lt_of_lt_of_le (hS b' o h) hsize, fun b' h => Nat.lt_of_lt_of_le (hM b' h) hsize, ⟨[], rfl, trivial⟩, ?_, ?_, ?_, ?_, ?_⟩
    · intro o x hx
      have : o = 901 ∧ x = .arr e k (m.map fun x => dOf (enc x)) := by
        by_cases ho : o = 901
        · subst ho; simp [look] at hx; exact ⟨rfl, hx.symm⟩
        · simp [look, ho] at hx
      obtain ⟨rfl, rfl⟩ := this
      refine ⟨vOf (m.map enc).flatten, ⟨?_, .inr ⟨b, cap, _, ?_, Nat.zero_le _, hbb, ?_, hmax, ?_, ?_⟩⟩, ?_, ?_, k0, fun b' hb' => hfree b' hb'⟩
      · have h1 : (vOf (m.map enc).flatten).length = l.length * k := by rw [← hfl', Array.length_toList, hfs']
        rw [h1, List.length_map, hml]
      · rw [hτ, List.length_map, hml]
      · rw [List.length_map, hml]; exact hcap
      · rw [putCells, Array.size_mapIdx]; exact hcs
      · rw [List.length_map, hml, ← hfl']
        apply List.ext_getElem?
        intro t
        by_cases ht : t < l.length * k
        · have ht2 : t < cur.size := by rw [hcs]; exact Nat.lt_of_lt_of_le ht (Nat.mul_le_mul_right k hcap)
          rw [List.getElem?_take_of_lt ht, Array.getElem?_toList, Array.getElem?_toList, putCells, Array.getElem?_mapIdx, Array.getElem?_eq_getElem ht2, Array.getElem?_eq_getElem (by rw [hfs']; exact ht), Option.map_some, if_pos ⟨Nat.zero_le _, by rw [hfs']; omega⟩, Nat.sub_zero, getElem!_pos _ _ (by rw [hfs']; exact ht)]
          rfl
        · rw [List.getElem?_eq_none (by rw [List.length_take]; omega), List.getElem?_eq_none (by rw [Array.length_toList, hfs']; omega)]
      · rw [flat_d]; exact dOf_rep _ _ _
      · intro x hx
        obtain ⟨y, _, rfl⟩ := List.mem_map.1 hx
        simp [hk]
    · intro o o' x x' b' h1 h2 hn
      have a1 : o = 901 := Classical.byContradiction fun hc => by simp [look, hc] at h1
      have a2 : o' = 901 := Classical.byContradiction fun hc => by simp [look, hc] at h2
      exact absurd (a1.trans a2.symm) hn
    · intro o x b' h1 h2
      have a1 : o = 901 := Classical.byContradiction fun hc => by simp [look, hc] at h1
      subst a1
      exact hown 901 (.arr e k (l.map fun x => dOf (enc x))) b' (by simp [look]) h2
    · intro o h1
      have a1 : o = 901 := Classical.byContradiction fun hc => by simp [look, hc] at h1
      subst a1
      simp [look] at h1
    · intro o x x' h1 h2
      have a1 : o = 901 := Classical.byContradiction fun hc => by simp [look, hc] at h1
      subst a1
      simp [look] at h1 h2
      subst h1 h2
      exact ⟨by simp [hml], fun _ => rfl⟩
end
end Go.Mw
namespace Go.Proofs
open Go.Shelf
set_option maxRecDepth 100000
def sortNt_ren : Go.Shelf.Ren := ⟨fun | 6 => 61 | 15 => 66 | 14 => 65 | 28 => 76 | 29 => 77 | 20 => 68 | 21 => 69 | 22 => 70 | 23 => 71 | 24 => 72 | 25 => 73 | 26 => 74 | 27 => 75 | 46 => 78 | 47 => 79 | 48 => 80 | 49 => 81 | 50 => 82 | 57 => 83 | n => n, fun | 22 => 24 | 24 => 42 | 25 => 106 | 3 => 3 | 39 => 112 | 0 => 0 | 53 => 121 | 55 => 123 | 4 => 4 | 46 => 115 | 45 => 114 | 50 => 80 | 5 => 5 | 9 => 9 | 66 => 124 | 70 => 92 | 76 => 129 | 77 => 130 | n => n, fun | n => n⟩
theorem sortNt : Go.Proofs.SlLaysF0.n6 Try.prog sortNt_ren where
  mixed := by kernel_rfl
  f6 := ⟨ "slices.SortFunc[[]meterworks/api.Note,meterworks/api.Note]", by decide, Try.func61.trans (congrArg some (by kernel_rfl))⟩
  f14 := ⟨ "slices.pdqsortCmpFunc[meterworks/api.Note]", by decide, Try.func65.trans (congrArg some (by kernel_rfl))⟩
  f15 := Try.func66.trans (congrArg some (by kernel_rfl))
  f20 := ⟨ "slices.insertionSortCmpFunc[meterworks/api.Note]", by decide, Try.func68.trans (congrArg some (by kernel_rfl))⟩
  f21 := ⟨ "slices.heapSortCmpFunc[meterworks/api.Note]", by decide, Try.func69.trans (congrArg some (by kernel_rfl))⟩
  f22 := ⟨ "slices.breakPatternsCmpFunc[meterworks/api.Note]", by decide, Try.func70.trans (congrArg some (by kernel_rfl))⟩
  f23 := ⟨ "slices.choosePivotCmpFunc[meterworks/api.Note]", by decide, Try.func71.trans (congrArg some (by kernel_rfl))⟩
  f24 := ⟨ "slices.reverseRangeCmpFunc[meterworks/api.Note]", by decide, Try.func72.trans (congrArg some (by kernel_rfl))⟩
  f25 := ⟨ "slices.partialInsertionSortCmpFunc[meterworks/api.Note]", by decide, Try.func73.trans (congrArg some (by kernel_rfl))⟩
  f26 := ⟨ "slices.partitionEqualCmpFunc[meterworks/api.Note]", by decide, Try.func74.trans (congrArg some (by kernel_rfl))⟩
  f27 := ⟨ "slices.partitionCmpFunc[meterworks/api.Note]", by decide, Try.func75.trans (congrArg some (by kernel_rfl))⟩
  f28 := Try.func76.trans (congrArg some (by kernel_rfl))
  f29 := Try.func77.trans (congrArg some (by kernel_rfl))
  f46 := ⟨ "slices.siftDownCmpFunc[meterworks/api.Note]", by decide, Try.func78.trans (congrArg some (by kernel_rfl))⟩
  f47 := Try.func79.trans (congrArg some (by kernel_rfl))
  f48 := Try.func80.trans (congrArg some (by kernel_rfl))
  f49 := ⟨ "slices.medianAdjacentCmpFunc[meterworks/api.Note]", by decide, Try.func81.trans (congrArg some (by kernel_rfl))⟩
  f50 := ⟨ "slices.medianCmpFunc[meterworks/api.Note]", by decide, Try.func82.trans (congrArg some (by kernel_rfl))⟩
  f57 := ⟨ "slices.order2CmpFunc[meterworks/api.Note]", by decide, Try.func83.trans (congrArg some (by kernel_rfl))⟩
  t0 := Try.underlying0
  a0 := Try.isAgg0
  z0 := Try.sizeOf0
  v0 := Try.zeroValue0
  t3 := Try.underlying3
  a3 := Try.isAgg3
  z3 := Try.sizeOf3
  v3 := Try.zeroValue3
  t4 := Try.underlying4
  a4 := Try.isAgg4
  z4 := Try.sizeOf4
  v4 := Try.zeroValue4
  t5 := Try.underlying5
  a5 := Try.isAgg5
  z5 := Try.sizeOf5
  v5 := Try.zeroValue5
  t9 := Try.underlying9
  a9 := Try.isAgg9
  z9 := Try.sizeOf9
  v9 := Try.zeroValue9
  t22 := Try.underlying24
  a22 := Try.isAgg24
  z22 := Try.sizeOf24
  v22 := Try.zeroValue24
  t25 := Try.underlying106
  a25 := Try.isAgg106
  z25 := Try.sizeOf106
  v25 := Try.zeroValue106
  t39 := Try.underlying112
  a39 := Try.isAgg112
  z39 := Try.sizeOf112
  v39 := Try.zeroValue112
  t45 := Try.underlying114
  a45 := Try.isAgg114
  z45 := Try.sizeOf114
  v45 := Try.zeroValue114
  t46 := Try.underlying115
  a46 := Try.isAgg115
  z46 := Try.sizeOf115
  v46 := Try.zeroValue115
  t50 := Try.underlying80
  a50 := Try.isAgg80
  z50 := Try.sizeOf80
  v50 := Try.zeroValue80
  t53 := Try.underlying121
  a53 := Try.isAgg121
  z53 := Try.sizeOf121
  v53 := Try.zeroValue121
  t55 := Try.underlying123
  a55 := Try.isAgg123
  z55 := Try.sizeOf123
  v55 := Try.zeroValue123
  t66 := Try.underlying124
  a66 := Try.isAgg124
  z66 := Try.sizeOf124
  v66 := Try.zeroValue124
  t70 := Try.underlying92
  a70 := Try.isAgg92
  z70 := Try.sizeOf92
  v70 := Try.zeroValue92
  t76 := Try.underlying129
  a76 := Try.isAgg129
  z76 := Try.sizeOf129
  v76 := Try.zeroValue129
  t77 := Try.underlying130
  a77 := Try.isAgg130
  z77 := Try.sizeOf130
  v77 := Try.zeroValue130
def cmpInt_ren : Go.Shelf.Ren := ⟨fun | 5 => 63 | 7 => 67 | n => n, fun | 22 => 3 | 3 => 3 | 4 => 4 | n => n, fun | n => n⟩
theorem cmpInt : Go.Proofs.SlLaysC2.n5 Try.prog cmpInt_ren where
  mixed := by kernel_rfl
  f5 := ⟨ "cmp.Compare[int]", by decide, Try.func63.trans (congrArg some (by kernel_rfl))⟩
  f7 := ⟨ "cmp.isNaN[int]", by decide, Try.func67.trans (congrArg some (by kernel_rfl))⟩
  t3 := Try.underlying3
  a3 := Try.isAgg3
  z3 := Try.sizeOf3
  v3 := Try.zeroValue3
  t4 := Try.underlying4
  a4 := Try.isAgg4
  z4 := Try.sizeOf4
  v4 := Try.zeroValue4
  t22 := Try.underlying3
  a22 := Try.isAgg3
  z22 := Try.sizeOf3
  v22 := Try.zeroValue3

end Go.Proofs
namespace Go.Mw
open Go.Proofs Go.Bi Go.Sort Go.Lib
def ntI (n : Nt) : List Int := [n.day, n.fig, n.came]
def ntCmp (x y : Nt) : Int := Lib.compareInt x.day y.day
set_option maxHeartbeats 1000000 in
/-- The order of notes, by their days. -/
theorem ntCmp_walk (x y : Nt) (W : World) : Calls Try.prog 62 #[.agg (vOf (ntI x)).toArray, .agg (vOf (ntI y)).toArray] W fun e w' => e = .returned (.int .i64 (ntCmp x y)) ∧ ∃ q os', w' = Go.Sort.grow (W.drewN q) os' := by
  have hcon := fun W' => AnyG.cmp_Compare_int cmpInt x.day y.day W'
  change ∀ W', Calls Try.prog 63 _ _ _ at hcon
  show Calls Try.prog 62 #[.agg #[.int .i64 x.day, .int .i64 x.fig, .int .i64 x.came], .agg #[.int .i64 y.day, .int .i64 y.fig, .int .i64 y.came]] W _
  unfold ntCmp
  generalize Lib.compareInt x.day y.day = r at hcon ⊢
  go_enter Try.func62, Try.ntmps62
  go_wp2_with (go_at_call 63; refine (hcon _).mono ?_; rintro e w' ⟨rfl, rfl⟩)
  go_ret
  exact ⟨rfl, 0, _, by rw [alloc_eq_grow, alloc_eq_grow, grow_grow]; rfl⟩
theorem ntLt (x y : Nt) : ltOf ntCmp x y = decide (x.day < y.day) := by
  unfold ltOf ntCmp Lib.compareInt
  by_cases h1 : x.day < y.day
  · simp [h1]
  · by_cases h2 : y.day < x.day <;> simp [h1, h2]
theorem nt_swo : SWO (ltOf ntCmp) where
  irrefl x := by rw [ntLt]; simp
  trans x y z h1 h2 := by rw [ntLt] at *; simp at *; omega
  ntrans x y z h1 h2 := by rw [ntLt] at *; simp at *; omega
theorem c_SortFunc_Nt (l m : List Nt) (hne : l ≠ []) (hlen : l.length < 1000) (hm : ∀ d : List Nt, d.Perm l → d.Pairwise (fun a b => ¬ b.day < a.day) → d = m) :
    Con Try.prog 61 [.leaf (.own 901 0 l.length l.length), .leaf (.d (.fn 62 []))] [(901, .arr 42 3 (l.map encNt))] (.ret (.tup []) [(901, .arr 42 3 (m.map encNt))]) :=
  con_sort sortNt 3 42 (by omega) Try.isAgg42 Try.sizeOf42 ntI (fun _ => rfl) ntCmp nt_swo 62 (enters_of Try.func62 (by kernel_rfl) rfl) ntCmp_walk l m hne (by omega) fun d h1 h2 => hm d h1 (h2.imp fun {a b} h => by rw [ntLt] at h; simpa using h)
end Go.Mw
namespace Go.Mw
open Go.Proofs Go.RowKit Go.ChangeShapes Go.WideShapes Go.Bi

theorem rows_map {α : Type} {f : α → List D} : ∀ {rows : List (List D)}, (∀ r ∈ rows, ∃ x, r = f x) → ∃ l : List α, rows = l.map f
  | [], _ => ⟨[], rfl⟩
  | r :: rows, h => by
    obtain ⟨x, rfl⟩ := h r (by simp)
    obtain ⟨l, rfl⟩ := rows_map (rows := rows) fun q hq => h q (List.mem_cons_of_mem _ hq)
    exact ⟨x :: l, rfl⟩
section
variable {H : Type} {enc : TypeId × Value → H} {W : World} {v : Value} {d : DataW H} {ps : List MemPlace}
abbrev TReads (enc : TypeId × Value → H) (W : World) (t : TypeId) (Q : List D → Prop) : Prop := Reads enc Try.prog W 0 (fun _ => true) true t Q
theorem r_int : TReads enc W 3 (fun ds => ∃ n : Int, ds = encInt n) := reads_flat (ks := [.int .i64]) (by kernel_rfl) fun r h => by
  obtain ⟨a, r, rfl, ⟨n, hn, _⟩, h⟩ := all2_inv h
  have := all2_nil h
  subst hn this
  exact ⟨n, rfl⟩
theorem r_trf : TReads enc W 69 (fun ds => ∃ x : Trf, ds = encTrf x) := reads_flat (ks := [.int .i64, .int .i64]) (by kernel_rfl) fun r h => by
  obtain ⟨a, r, rfl, ⟨n, hn, _⟩, h⟩ := all2_inv h
  obtain ⟨b, r, rfl, ⟨m, hm, _⟩, h⟩ := all2_inv h
  have := all2_nil h
  subst hn hm this
  exact ⟨⟨n, m⟩, rfl⟩
theorem r_nt : TReads enc W 42 (fun ds => ∃ x : Nt, ds = encNt x) := reads_flat (ks := [.int .i64, .int .i64, .int .i64]) (by kernel_rfl) fun r h => by
  obtain ⟨a, r, rfl, ⟨n, hn, _⟩, h⟩ := all2_inv h
  obtain ⟨b, r, rfl, ⟨m, hm, _⟩, h⟩ := all2_inv h
  obtain ⟨c, r, rfl, ⟨k, hk, _⟩, h⟩ := all2_inv h
  have := all2_nil h
  subst hn hm hk this
  exact ⟨⟨n, m, k⟩, rfl⟩
theorem r_dp : TReads enc W 47 (fun ds => ∃ x : Dp, ds = encDp x) := reads_flat (ks := [.int .i64, .int .i64, .int .i64, .int .i64, .int .i64, .int .i64]) (by kernel_rfl) fun r h => by
  obtain ⟨a, r, rfl, ⟨n1, h1, _⟩, h⟩ := all2_inv h
  obtain ⟨b, r, rfl, ⟨n2, h2, _⟩, h⟩ := all2_inv h
  obtain ⟨c, r, rfl, ⟨n3, h3, _⟩, h⟩ := all2_inv h
  obtain ⟨e, r, rfl, ⟨n4, h4, _⟩, h⟩ := all2_inv h
  obtain ⟨f, r, rfl, ⟨n5, h5, _⟩, h⟩ := all2_inv h
  obtain ⟨g, r, rfl, ⟨n6, h6, _⟩, h⟩ := all2_inv h
  have := all2_nil h
  subst h1 h2 h3 h4 h5 h6 this
  exact ⟨⟨n1, n2, n3, n4, n5, n6⟩, rfl⟩
theorem r_ac : TReads enc W 27 (fun ds => ∃ x : Ac, ds = encAc x) := fun fuel cs x h => by
  obtain ⟨n, ha⟩ := struct_one (P := Try.prog) (t := 27) (ts := [3, 3, 3, 3, 22, 23, 24, 25]) (by kernel_rfl) h
  obtain ⟨a1, r, rfl, h1, ha⟩ := all2_inv ha
  obtain ⟨a2, r, rfl, h2, ha⟩ := all2_inv ha
  obtain ⟨a3, r, rfl, h3, ha⟩ := all2_inv ha
  obtain ⟨a4, r, rfl, h4, ha⟩ := all2_inv ha
  obtain ⟨a5, r, rfl, h5, ha⟩ := all2_inv ha
  obtain ⟨a6, r, rfl, h6, ha⟩ := all2_inv ha
  obtain ⟨a7, r, rfl, h7, ha⟩ := all2_inv ha
  obtain ⟨a8, r, rfl, h8, ha⟩ := all2_inv ha
  have := all2_nil ha
  subst this
  obtain ⟨d1, ⟨x1, e1⟩, q1⟩ := reads_one r_int h1
  obtain ⟨d2, ⟨x2, e2⟩, q2⟩ := reads_one r_int h2
  obtain ⟨d3, ⟨x3, e3⟩, q3⟩ := reads_one r_int h3
  obtain ⟨d4, ⟨x4, e4⟩, q4⟩ := reads_one r_int h4
  obtain ⟨d5, ⟨x5, e5, p5⟩, q5⟩ := reads_one (reads_slice (k := 2) (by kernel_rfl) r_trf (by kernel_rfl) (by decide)) h5
  obtain ⟨d6, ⟨x6, e6, p6⟩, q6⟩ := reads_one (reads_slice (k := 1) (by kernel_rfl) r_int (by kernel_rfl) (by decide)) h6
  obtain ⟨d7, ⟨x7, e7, p7⟩, q7⟩ := reads_one (reads_slice (k := 3) (by kernel_rfl) r_nt (by kernel_rfl) (by decide)) h7
  obtain ⟨d8, ⟨x8, e8, p8⟩, q8⟩ := reads_one (reads_slice (k := 6) (by kernel_rfl) r_dp (by kernel_rfl) (by decide)) h8
  obtain ⟨l5, rfl⟩ := rows_map p5
  obtain ⟨l6, rfl⟩ := rows_map p6
  obtain ⟨l7, rfl⟩ := rows_map p7
  obtain ⟨l8, rfl⟩ := rows_map p8
  cases e1; cases e2; cases e3; cases e4; cases e5; cases e6; cases e7; cases e8
  exact ⟨_, ⟨⟨x1, x2, x3, x4, l5, l6, l7, l8⟩, rfl⟩, q1, q2, q3, q4, q5, q6, q7, q8, trivial⟩
set_option maxRecDepth 20000 in
theorem agg_read {t : TypeId} {α : Type} {f : α → List D} (hs : structB Try.prog t = true) (hr : TReads enc W t (fun ds => ∃ x : α, ds = f x)) {b0 : Nat} {r : Reach} (hv : Value.okWide Try.prog W r b0 t v) (h : DataW.Trod enc Try.prog W 0 (fun _ => true) true t v d ps) :
    ∃ x : α, RepV (fun b _ => b < W.heap.size) noVal (look []) W (.val true ((f x).map .d)) v := by
  obtain ⟨cs, rfl⟩ := struct_agg hs hv
  obtain ⟨fuel, hf⟩ := h
  have hcs : (Value.agg cs).cells.toList = cs.toList := rfl
  rw [hcs] at hf
  obtain ⟨ds, ⟨x, rfl⟩, ha⟩ := hr _ _ _ hf
  refine ⟨x, cs.toList, by simp, ?_⟩
  exact all2_map (R' := RepL (fun b _ => b < W.heap.size) noVal (look []) W) AL.d (fun a b h => h) ha
set_option maxRecDepth 20000 in
theorem ac_read {b0 : Nat} {r : Reach} (hv : Value.okWide Try.prog W r b0 27 v) (h : DataW.Trod enc Try.prog W 0 (fun _ => true) true 27 v d ps) :
    ∃ x : Ac, RepV (fun b _ => b < W.heap.size) noVal (look []) W (acV x) v := agg_read (by kernel_rfl) r_ac hv h
set_option maxRecDepth 20000 in
theorem nt_read {b0 : Nat} {r : Reach} (hv : Value.okWide Try.prog W r b0 42 v) (h : DataW.Trod enc Try.prog W 0 (fun _ => true) true 42 v d ps) :
    ∃ x : Nt, RepV (fun b _ => b < W.heap.size) noVal (look []) W (ntV x) v := agg_read (by kernel_rfl) r_nt hv h
end
end Go.Mw
namespace Go.Mw
open Go.RowKit Go.ChangeShapes Go.WideShapes
section
variable {H : Type} {enc : TypeId × Value → H} {P : Program} {w : World} {base : Nat} {spare : Nat → Bool} {held : Bool} {v : Value} {d : DataW H} {ps : List MemPlace} {t : TypeId}
theorem u16_read {b0 : Nat} {r : Reach} (ht : P.underlying t = some (.int .u16)) (hv : Value.okWide P w r b0 t v) (h : DataW.Trod enc P w base spare held t v d ps) :
    ∃ n : Nat, n ≤ 65535 ∧ RepV (fun b _ => b < w.heap.size) noVal (look []) w (.leaf (.d (.raw (.int .u16 (n : Int))))) v := by
  obtain ⟨n, hw, hr⟩ := int_read ht hv h
  have h2 : 0 ≤ n ∧ n ≤ 65535 := by
    simp only [Lit.wf, Bool.and_eq_true, decide_eq_true_eq] at hw
    have e1 : IntKind.u16.min = 0 := by decide
    have e2 : IntKind.u16.max = 65535 := by decide
    omega
  refine ⟨n.toNat, by omega, ?_⟩
  rw [show ((n.toNat : Nat) : Int) = n by omega]
  exact hr
end
end Go.Mw
