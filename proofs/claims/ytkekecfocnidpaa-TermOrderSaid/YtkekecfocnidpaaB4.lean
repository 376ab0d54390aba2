/- Closed facts on the program's table of types. -/
import Derived.Test.YtkekecfocnidpaaProg
import Derived.Test.YtkekecfocnidpaaB3
set_option linter.unusedSimpArgs false
set_option linter.unusedVariables false
set_option linter.unusedSectionVars false
set_option linter.deprecated false
namespace Go.Mw
open Go.Proofs
@[go_sem] theorem f_t3 : tySize Try.prog 3 = some 1 ∧ tyBytes Try.prog 3 = some 8 ∧ tyAg Try.prog 3 = some false ∧ tyEl Try.prog 3 = none ∧ tyInt Try.prog 3 = some IntKind.i64 ∧ tyStr Try.prog 3 = false ∧ tyBool Try.prog 3 = false ∧ tyArr Try.prog 3 = none ∧ tyArrA Try.prog 3 = none ∧ tyInts Try.prog 3 = none ∧ tyPlaces Try.prog 3 = none ∧ zeroLs Try.prog 3 = some (false, [D.raw (Value.int IntKind.i64 (0))]) ∧ Program.concrete Try.prog 3 = true := by and_intros <;> kernel_rfl
@[go_sem] theorem f_t5 : tySize Try.prog 5 = some 1 ∧ tyBytes Try.prog 5 = some 1 ∧ tyAg Try.prog 5 = some false ∧ tyEl Try.prog 5 = none ∧ tyInt Try.prog 5 = some IntKind.u8 ∧ tyStr Try.prog 5 = false ∧ tyBool Try.prog 5 = false ∧ tyArr Try.prog 5 = none ∧ tyArrA Try.prog 5 = none ∧ tyInts Try.prog 5 = none ∧ tyPlaces Try.prog 5 = none ∧ zeroLs Try.prog 5 = some (false, [D.raw (Value.int IntKind.u8 (0))]) ∧ Program.concrete Try.prog 5 = true := by and_intros <;> kernel_rfl
@[go_sem] theorem f_t9 : tySize Try.prog 9 = some 1 ∧ tyBytes Try.prog 9 = some 16 ∧ tyAg Try.prog 9 = some false ∧ tyEl Try.prog 9 = none ∧ tyInt Try.prog 9 = none ∧ tyStr Try.prog 9 = true ∧ tyBool Try.prog 9 = false ∧ tyArr Try.prog 9 = none ∧ tyArrA Try.prog 9 = none ∧ tyInts Try.prog 9 = none ∧ tyPlaces Try.prog 9 = none ∧ zeroLs Try.prog 9 = some (false, [D.raw (Value.string { data := { toList := [] } })]) ∧ Program.concrete Try.prog 9 = true := by and_intros <;> kernel_rfl
@[go_sem] theorem f_t22 : tySize Try.prog 22 = some 1 ∧ tyBytes Try.prog 22 = some 24 ∧ tyAg Try.prog 22 = some false ∧ tyEl Try.prog 22 = some 50 ∧ tyInt Try.prog 22 = none ∧ tyStr Try.prog 22 = false ∧ tyBool Try.prog 22 = false ∧ tyArr Try.prog 22 = none ∧ tyArrA Try.prog 22 = none ∧ tyInts Try.prog 22 = none ∧ tyPlaces Try.prog 22 = none ∧ zeroLs Try.prog 22 = some (false, [D.raw (Value.slice none 0 0)]) ∧ Program.concrete Try.prog 22 = true := by and_intros <;> kernel_rfl
@[go_sem] theorem f_t23 : tySize Try.prog 23 = some 1 ∧ tyBytes Try.prog 23 = some 24 ∧ tyAg Try.prog 23 = some false ∧ tyEl Try.prog 23 = some 42 ∧ tyInt Try.prog 23 = none ∧ tyStr Try.prog 23 = false ∧ tyBool Try.prog 23 = false ∧ tyArr Try.prog 23 = none ∧ tyArrA Try.prog 23 = none ∧ tyInts Try.prog 23 = none ∧ tyPlaces Try.prog 23 = none ∧ zeroLs Try.prog 23 = some (false, [D.raw (Value.slice none 0 0)]) ∧ Program.concrete Try.prog 23 = true := by and_intros <;> kernel_rfl
@[go_sem] theorem f_t24 : tySize Try.prog 24 = some 1 ∧ tyBytes Try.prog 24 = some 24 ∧ tyAg Try.prog 24 = some false ∧ tyEl Try.prog 24 = some 52 ∧ tyInt Try.prog 24 = none ∧ tyStr Try.prog 24 = false ∧ tyBool Try.prog 24 = false ∧ tyArr Try.prog 24 = none ∧ tyArrA Try.prog 24 = none ∧ tyInts Try.prog 24 = none ∧ tyPlaces Try.prog 24 = none ∧ zeroLs Try.prog 24 = some (false, [D.raw (Value.slice none 0 0)]) ∧ Program.concrete Try.prog 24 = true := by and_intros <;> kernel_rfl
@[go_sem] theorem f_t25 : tySize Try.prog 25 = some 1 ∧ tyBytes Try.prog 25 = some 24 ∧ tyAg Try.prog 25 = some false ∧ tyEl Try.prog 25 = some 43 ∧ tyInt Try.prog 25 = none ∧ tyStr Try.prog 25 = false ∧ tyBool Try.prog 25 = false ∧ tyArr Try.prog 25 = none ∧ tyArrA Try.prog 25 = none ∧ tyInts Try.prog 25 = none ∧ tyPlaces Try.prog 25 = none ∧ zeroLs Try.prog 25 = some (false, [D.raw (Value.slice none 0 0)]) ∧ Program.concrete Try.prog 25 = true := by and_intros <;> kernel_rfl
@[go_sem] theorem f_t27 : tySize Try.prog 27 = some 4 ∧ tyBytes Try.prog 27 = some 96 ∧ tyAg Try.prog 27 = some true ∧ tyEl Try.prog 27 = none ∧ tyInt Try.prog 27 = none ∧ tyStr Try.prog 27 = false ∧ tyBool Try.prog 27 = false ∧ tyArr Try.prog 27 = none ∧ tyArrA Try.prog 27 = none ∧ tyInts Try.prog 27 = none ∧ tyPlaces Try.prog 27 = some [(0, 1), (1, 1), (2, 1), (3, 1)] ∧ zeroLs Try.prog 27 = some (true, [D.raw (Value.slice none 0 0), D.raw (Value.slice none 0 0), D.raw (Value.slice none 0 0), D.raw (Value.slice none 0 0)]) ∧ Program.concrete Try.prog 27 = true := by and_intros <;> kernel_rfl
@[go_sem] theorem f_t29 : tySize Try.prog 29 = some 2 ∧ tyBytes Try.prog 29 = some 16 ∧ tyAg Try.prog 29 = some true ∧ tyEl Try.prog 29 = none ∧ tyInt Try.prog 29 = none ∧ tyStr Try.prog 29 = false ∧ tyBool Try.prog 29 = false ∧ tyArr Try.prog 29 = none ∧ tyArrA Try.prog 29 = none ∧ tyInts Try.prog 29 = some 2 ∧ tyPlaces Try.prog 29 = some [(0, 1), (1, 1)] ∧ zeroLs Try.prog 29 = some (true, [D.raw (Value.int IntKind.i64 (0)), D.raw (Value.int IntKind.i64 (0))]) ∧ Program.concrete Try.prog 29 = true := by and_intros <;> kernel_rfl
@[go_sem] theorem f_t32 : tySize Try.prog 32 = some 1 ∧ tyBytes Try.prog 32 = some 24 ∧ tyAg Try.prog 32 = some false ∧ tyEl Try.prog 32 = some 3 ∧ tyInt Try.prog 32 = none ∧ tyStr Try.prog 32 = false ∧ tyBool Try.prog 32 = false ∧ tyArr Try.prog 32 = none ∧ tyArrA Try.prog 32 = none ∧ tyInts Try.prog 32 = none ∧ tyPlaces Try.prog 32 = none ∧ zeroLs Try.prog 32 = some (false, [D.raw (Value.slice none 0 0)]) ∧ Program.concrete Try.prog 32 = true := by and_intros <;> kernel_rfl
@[go_sem] theorem f_t33 : tySize Try.prog 33 = some 1 ∧ tyBytes Try.prog 33 = some 8 ∧ tyAg Try.prog 33 = some false ∧ tyEl Try.prog 33 = none ∧ tyInt Try.prog 33 = some IntKind.i64 ∧ tyStr Try.prog 33 = false ∧ tyBool Try.prog 33 = false ∧ tyArr Try.prog 33 = none ∧ tyArrA Try.prog 33 = none ∧ tyInts Try.prog 33 = none ∧ tyPlaces Try.prog 33 = none ∧ zeroLs Try.prog 33 = some (false, [D.raw (Value.int IntKind.i64 (0))]) ∧ Program.concrete Try.prog 33 = true := by and_intros <;> kernel_rfl
@[go_sem] theorem f_t42 : tySize Try.prog 42 = some 4 ∧ tyBytes Try.prog 42 = some 32 ∧ tyAg Try.prog 42 = some true ∧ tyEl Try.prog 42 = none ∧ tyInt Try.prog 42 = none ∧ tyStr Try.prog 42 = false ∧ tyBool Try.prog 42 = false ∧ tyArr Try.prog 42 = none ∧ tyArrA Try.prog 42 = none ∧ tyInts Try.prog 42 = some 4 ∧ tyPlaces Try.prog 42 = some [(0, 1), (1, 1), (2, 1), (3, 1)] ∧ zeroLs Try.prog 42 = some (true, [D.raw (Value.int IntKind.i64 (0)), D.raw (Value.int IntKind.i64 (0)), D.raw (Value.int IntKind.i64 (0)), D.raw (Value.int IntKind.i64 (0))]) ∧ Program.concrete Try.prog 42 = true := by and_intros <;> kernel_rfl
@[go_sem] theorem f_t43 : tySize Try.prog 43 = some 2 ∧ tyBytes Try.prog 43 = some 16 ∧ tyAg Try.prog 43 = some true ∧ tyEl Try.prog 43 = none ∧ tyInt Try.prog 43 = none ∧ tyStr Try.prog 43 = false ∧ tyBool Try.prog 43 = false ∧ tyArr Try.prog 43 = some (2, 1) ∧ tyArrA Try.prog 43 = some (2, 1, false) ∧ tyInts Try.prog 43 = none ∧ tyPlaces Try.prog 43 = some [(0, 1), (1, 1)] ∧ zeroLs Try.prog 43 = some (true, [D.raw (Value.int IntKind.i64 (0)), D.raw (Value.int IntKind.i64 (0))]) ∧ Program.concrete Try.prog 43 = true := by and_intros <;> kernel_rfl
@[go_sem] theorem f_t50 : tySize Try.prog 50 = some 4 ∧ tyBytes Try.prog 50 = some 32 ∧ tyAg Try.prog 50 = some true ∧ tyEl Try.prog 50 = none ∧ tyInt Try.prog 50 = none ∧ tyStr Try.prog 50 = false ∧ tyBool Try.prog 50 = false ∧ tyArr Try.prog 50 = none ∧ tyArrA Try.prog 50 = none ∧ tyInts Try.prog 50 = some 4 ∧ tyPlaces Try.prog 50 = some [(0, 1), (1, 1), (2, 1), (3, 1)] ∧ zeroLs Try.prog 50 = some (true, [D.raw (Value.int IntKind.i64 (0)), D.raw (Value.int IntKind.i64 (0)), D.raw (Value.int IntKind.i64 (0)), D.raw (Value.int IntKind.i64 (0))]) ∧ Program.concrete Try.prog 50 = true := by and_intros <;> kernel_rfl
@[go_sem] theorem f_t52 : tySize Try.prog 52 = some 4 ∧ tyBytes Try.prog 52 = some 48 ∧ tyAg Try.prog 52 = some true ∧ tyEl Try.prog 52 = none ∧ tyInt Try.prog 52 = none ∧ tyStr Try.prog 52 = false ∧ tyBool Try.prog 52 = false ∧ tyArr Try.prog 52 = none ∧ tyArrA Try.prog 52 = none ∧ tyInts Try.prog 52 = none ∧ tyPlaces Try.prog 52 = some [(0, 1), (1, 1), (2, 1), (3, 1)] ∧ zeroLs Try.prog 52 = some (true, [D.raw (Value.int IntKind.i64 (0)), D.raw (Value.int IntKind.i64 (0)), D.raw (Value.slice none 0 0), D.raw (Value.int IntKind.i64 (0))]) ∧ Program.concrete Try.prog 52 = true := by and_intros <;> kernel_rfl
@[go_sem] theorem f_t59 : tySize Try.prog 59 = some 1 ∧ tyBytes Try.prog 59 = some 8 ∧ tyAg Try.prog 59 = some false ∧ tyEl Try.prog 59 = none ∧ tyInt Try.prog 59 = none ∧ tyStr Try.prog 59 = false ∧ tyBool Try.prog 59 = false ∧ tyArr Try.prog 59 = none ∧ tyArrA Try.prog 59 = none ∧ tyInts Try.prog 59 = none ∧ tyPlaces Try.prog 59 = none ∧ zeroLs Try.prog 59 = some (false, [D.raw (Value.pointer none)]) ∧ Program.concrete Try.prog 59 = true := by and_intros <;> kernel_rfl
@[go_sem] theorem f_t62 : tySize Try.prog 62 = some 1 ∧ tyBytes Try.prog 62 = some 8 ∧ tyAg Try.prog 62 = some false ∧ tyEl Try.prog 62 = none ∧ tyInt Try.prog 62 = none ∧ tyStr Try.prog 62 = false ∧ tyBool Try.prog 62 = false ∧ tyArr Try.prog 62 = none ∧ tyArrA Try.prog 62 = none ∧ tyInts Try.prog 62 = none ∧ tyPlaces Try.prog 62 = none ∧ zeroLs Try.prog 62 = some (false, [D.raw Value.nilFunc]) ∧ Program.concrete Try.prog 62 = true := by and_intros <;> kernel_rfl
@[go_sem] theorem f_t63 : tySize Try.prog 63 = some 4 ∧ tyBytes Try.prog 63 = some 32 ∧ tyAg Try.prog 63 = some true ∧ tyEl Try.prog 63 = none ∧ tyInt Try.prog 63 = none ∧ tyStr Try.prog 63 = false ∧ tyBool Try.prog 63 = false ∧ tyArr Try.prog 63 = some (4, 1) ∧ tyArrA Try.prog 63 = some (4, 1, false) ∧ tyInts Try.prog 63 = none ∧ tyPlaces Try.prog 63 = some [(0, 1), (1, 1), (2, 1), (3, 1)] ∧ zeroLs Try.prog 63 = some (true, [D.raw (Value.int IntKind.i64 (0)), D.raw (Value.int IntKind.i64 (0)), D.raw (Value.int IntKind.i64 (0)), D.raw (Value.int IntKind.i64 (0))]) ∧ Program.concrete Try.prog 63 = true := by and_intros <;> kernel_rfl
@[go_sem] theorem f_t64 : tySize Try.prog 64 = some 1 ∧ tyBytes Try.prog 64 = some 24 ∧ tyAg Try.prog 64 = some false ∧ tyEl Try.prog 64 = some 70 ∧ tyInt Try.prog 64 = none ∧ tyStr Try.prog 64 = false ∧ tyBool Try.prog 64 = false ∧ tyArr Try.prog 64 = none ∧ tyArrA Try.prog 64 = none ∧ tyInts Try.prog 64 = none ∧ tyPlaces Try.prog 64 = none ∧ zeroLs Try.prog 64 = some (false, [D.raw (Value.slice none 0 0)]) ∧ Program.concrete Try.prog 64 = true := by and_intros <;> kernel_rfl
@[go_sem] theorem f_t65 : tySize Try.prog 65 = some 1 ∧ tyBytes Try.prog 65 = some 8 ∧ tyAg Try.prog 65 = some false ∧ tyEl Try.prog 65 = none ∧ tyInt Try.prog 65 = none ∧ tyStr Try.prog 65 = false ∧ tyBool Try.prog 65 = false ∧ tyArr Try.prog 65 = none ∧ tyArrA Try.prog 65 = none ∧ tyInts Try.prog 65 = none ∧ tyPlaces Try.prog 65 = none ∧ zeroLs Try.prog 65 = some (false, [D.raw (Value.map none)]) ∧ Program.concrete Try.prog 65 = true := by and_intros <;> kernel_rfl
@[go_sem] theorem f_t67 : tySize Try.prog 67 = some 6 ∧ tyBytes Try.prog 67 = some 128 ∧ tyAg Try.prog 67 = some true ∧ tyEl Try.prog 67 = none ∧ tyInt Try.prog 67 = none ∧ tyStr Try.prog 67 = false ∧ tyBool Try.prog 67 = false ∧ tyArr Try.prog 67 = none ∧ tyArrA Try.prog 67 = none ∧ tyInts Try.prog 67 = none ∧ tyPlaces Try.prog 67 = some [(0, 4), (4, 1), (5, 1)] ∧ zeroLs Try.prog 67 = some (true, [D.raw (Value.slice none 0 0), D.raw (Value.slice none 0 0), D.raw (Value.slice none 0 0), D.raw (Value.slice none 0 0), D.raw (Value.slice none 0 0), D.raw (Value.map none)]) ∧ Program.concrete Try.prog 67 = true := by and_intros <;> kernel_rfl
@[go_sem] theorem f_t68 : tySize Try.prog 68 = some 1 ∧ tyBytes Try.prog 68 = some 8 ∧ tyAg Try.prog 68 = some false ∧ tyEl Try.prog 68 = none ∧ tyInt Try.prog 68 = none ∧ tyStr Try.prog 68 = false ∧ tyBool Try.prog 68 = false ∧ tyArr Try.prog 68 = none ∧ tyArrA Try.prog 68 = none ∧ tyInts Try.prog 68 = none ∧ tyPlaces Try.prog 68 = none ∧ zeroLs Try.prog 68 = some (false, [D.raw (Value.pointer none)]) ∧ Program.concrete Try.prog 68 = true := by and_intros <;> kernel_rfl
@[go_sem] theorem f_t70 : tySize Try.prog 70 = some 6 ∧ tyBytes Try.prog 70 = some 48 ∧ tyAg Try.prog 70 = some true ∧ tyEl Try.prog 70 = none ∧ tyInt Try.prog 70 = none ∧ tyStr Try.prog 70 = false ∧ tyBool Try.prog 70 = false ∧ tyArr Try.prog 70 = none ∧ tyArrA Try.prog 70 = none ∧ tyInts Try.prog 70 = none ∧ tyPlaces Try.prog 70 = some [(0, 4), (4, 1), (5, 1)] ∧ zeroLs Try.prog 70 = some (true, [D.raw (Value.int IntKind.i64 (0)), D.raw (Value.int IntKind.i64 (0)), D.raw (Value.int IntKind.i64 (0)), D.raw (Value.int IntKind.i64 (0)), D.raw (Value.int IntKind.i64 (0)), D.raw (Value.int IntKind.i64 (0))]) ∧ Program.concrete Try.prog 70 = true := by and_intros <;> kernel_rfl
@[go_sem] theorem f_t74 : tySize Try.prog 74 = some 1 ∧ tyBytes Try.prog 74 = some 24 ∧ tyAg Try.prog 74 = some false ∧ tyEl Try.prog 74 = some 80 ∧ tyInt Try.prog 74 = none ∧ tyStr Try.prog 74 = false ∧ tyBool Try.prog 74 = false ∧ tyArr Try.prog 74 = none ∧ tyArrA Try.prog 74 = none ∧ tyInts Try.prog 74 = none ∧ tyPlaces Try.prog 74 = none ∧ zeroLs Try.prog 74 = some (false, [D.raw (Value.slice none 0 0)]) ∧ Program.concrete Try.prog 74 = true := by and_intros <;> kernel_rfl
@[go_sem] theorem f_t80 : tySize Try.prog 80 = some 2 ∧ tyBytes Try.prog 80 = some 16 ∧ tyAg Try.prog 80 = some true ∧ tyEl Try.prog 80 = none ∧ tyInt Try.prog 80 = none ∧ tyStr Try.prog 80 = false ∧ tyBool Try.prog 80 = false ∧ tyArr Try.prog 80 = none ∧ tyArrA Try.prog 80 = none ∧ tyInts Try.prog 80 = some 2 ∧ tyPlaces Try.prog 80 = some [(0, 1), (1, 1)] ∧ zeroLs Try.prog 80 = some (true, [D.raw (Value.int IntKind.i64 (0)), D.raw (Value.int IntKind.i64 (0))]) ∧ Program.concrete Try.prog 80 = true := by and_intros <;> kernel_rfl
@[go_sem] theorem f_t87 : tySize Try.prog 87 = some 1 ∧ tyBytes Try.prog 87 = some 8 ∧ tyAg Try.prog 87 = some false ∧ tyEl Try.prog 87 = none ∧ tyInt Try.prog 87 = none ∧ tyStr Try.prog 87 = false ∧ tyBool Try.prog 87 = false ∧ tyArr Try.prog 87 = none ∧ tyArrA Try.prog 87 = none ∧ tyInts Try.prog 87 = none ∧ tyPlaces Try.prog 87 = none ∧ zeroLs Try.prog 87 = some (false, [D.raw Value.nilFunc]) ∧ Program.concrete Try.prog 87 = true := by and_intros <;> kernel_rfl
@[go_sem] theorem f_t88 : tySize Try.prog 88 = some 1 ∧ tyBytes Try.prog 88 = some 24 ∧ tyAg Try.prog 88 = some false ∧ tyEl Try.prog 88 = some 87 ∧ tyInt Try.prog 88 = none ∧ tyStr Try.prog 88 = false ∧ tyBool Try.prog 88 = false ∧ tyArr Try.prog 88 = none ∧ tyArrA Try.prog 88 = none ∧ tyInts Try.prog 88 = none ∧ tyPlaces Try.prog 88 = none ∧ zeroLs Try.prog 88 = some (false, [D.raw (Value.slice none 0 0)]) ∧ Program.concrete Try.prog 88 = true := by and_intros <;> kernel_rfl
@[go_sem] theorem f_t94 : tySize Try.prog 94 = some 1 ∧ tyBytes Try.prog 94 = some 8 ∧ tyAg Try.prog 94 = some false ∧ tyEl Try.prog 94 = none ∧ tyInt Try.prog 94 = none ∧ tyStr Try.prog 94 = false ∧ tyBool Try.prog 94 = false ∧ tyArr Try.prog 94 = none ∧ tyArrA Try.prog 94 = none ∧ tyInts Try.prog 94 = none ∧ tyPlaces Try.prog 94 = none ∧ zeroLs Try.prog 94 = some (false, [D.raw Value.nilFunc]) ∧ Program.concrete Try.prog 94 = true := by and_intros <;> kernel_rfl
@[go_sem] theorem f_t95 : tySize Try.prog 95 = some 1 ∧ tyBytes Try.prog 95 = some 8 ∧ tyAg Try.prog 95 = some false ∧ tyEl Try.prog 95 = none ∧ tyInt Try.prog 95 = none ∧ tyStr Try.prog 95 = false ∧ tyBool Try.prog 95 = false ∧ tyArr Try.prog 95 = none ∧ tyArrA Try.prog 95 = none ∧ tyInts Try.prog 95 = none ∧ tyPlaces Try.prog 95 = none ∧ zeroLs Try.prog 95 = some (false, [D.raw Value.nilFunc]) ∧ Program.concrete Try.prog 95 = true := by and_intros <;> kernel_rfl
@[go_sem] theorem f_t97 : tySize Try.prog 97 = some 1 ∧ tyBytes Try.prog 97 = some 8 ∧ tyAg Try.prog 97 = some false ∧ tyEl Try.prog 97 = none ∧ tyInt Try.prog 97 = none ∧ tyStr Try.prog 97 = false ∧ tyBool Try.prog 97 = false ∧ tyArr Try.prog 97 = none ∧ tyArrA Try.prog 97 = none ∧ tyInts Try.prog 97 = none ∧ tyPlaces Try.prog 97 = none ∧ zeroLs Try.prog 97 = some (false, [D.raw Value.nilFunc]) ∧ Program.concrete Try.prog 97 = true := by and_intros <;> kernel_rfl
@[go_sem] theorem f_t98 : tySize Try.prog 98 = some 1 ∧ tyBytes Try.prog 98 = some 8 ∧ tyAg Try.prog 98 = some false ∧ tyEl Try.prog 98 = none ∧ tyInt Try.prog 98 = none ∧ tyStr Try.prog 98 = false ∧ tyBool Try.prog 98 = false ∧ tyArr Try.prog 98 = none ∧ tyArrA Try.prog 98 = none ∧ tyInts Try.prog 98 = none ∧ tyPlaces Try.prog 98 = none ∧ zeroLs Try.prog 98 = some (false, [D.raw Value.nilFunc]) ∧ Program.concrete Try.prog 98 = true := by and_intros <;> kernel_rfl
@[go_sem] theorem f_t110 : tySize Try.prog 110 = some 1 ∧ tyBytes Try.prog 110 = some 8 ∧ tyAg Try.prog 110 = some false ∧ tyEl Try.prog 110 = none ∧ tyInt Try.prog 110 = none ∧ tyStr Try.prog 110 = false ∧ tyBool Try.prog 110 = false ∧ tyArr Try.prog 110 = none ∧ tyArrA Try.prog 110 = none ∧ tyInts Try.prog 110 = none ∧ tyPlaces Try.prog 110 = none ∧ zeroLs Try.prog 110 = some (false, [D.raw Value.nilFunc]) ∧ Program.concrete Try.prog 110 = true := by and_intros <;> kernel_rfl
@[go_sem] theorem f_t118 : tySize Try.prog 118 = some 1 ∧ tyBytes Try.prog 118 = some 8 ∧ tyAg Try.prog 118 = some false ∧ tyEl Try.prog 118 = none ∧ tyInt Try.prog 118 = none ∧ tyStr Try.prog 118 = false ∧ tyBool Try.prog 118 = false ∧ tyArr Try.prog 118 = none ∧ tyArrA Try.prog 118 = none ∧ tyInts Try.prog 118 = none ∧ tyPlaces Try.prog 118 = none ∧ zeroLs Try.prog 118 = some (false, [D.raw Value.nilFunc]) ∧ Program.concrete Try.prog 118 = true := by and_intros <;> kernel_rfl
@[go_sem] theorem f_t121 : tySize Try.prog 121 = some 1 ∧ tyBytes Try.prog 121 = some 8 ∧ tyAg Try.prog 121 = some false ∧ tyEl Try.prog 121 = none ∧ tyInt Try.prog 121 = some IntKind.u64 ∧ tyStr Try.prog 121 = false ∧ tyBool Try.prog 121 = false ∧ tyArr Try.prog 121 = none ∧ tyArrA Try.prog 121 = none ∧ tyInts Try.prog 121 = none ∧ tyPlaces Try.prog 121 = none ∧ zeroLs Try.prog 121 = some (false, [D.raw (Value.int IntKind.u64 (0))]) ∧ Program.concrete Try.prog 121 = true := by and_intros <;> kernel_rfl
@[go_sem] theorem f_t123 : tySize Try.prog 123 = some 1 ∧ tyBytes Try.prog 123 = some 8 ∧ tyAg Try.prog 123 = some false ∧ tyEl Try.prog 123 = none ∧ tyInt Try.prog 123 = none ∧ tyStr Try.prog 123 = false ∧ tyBool Try.prog 123 = false ∧ tyArr Try.prog 123 = none ∧ tyArrA Try.prog 123 = none ∧ tyInts Try.prog 123 = none ∧ tyPlaces Try.prog 123 = none ∧ zeroLs Try.prog 123 = some (false, [D.raw Value.nilFunc]) ∧ Program.concrete Try.prog 123 = true := by and_intros <;> kernel_rfl
@[go_sem] theorem f_t125 : tySize Try.prog 125 = some 1 ∧ tyBytes Try.prog 125 = some 4 ∧ tyAg Try.prog 125 = some false ∧ tyEl Try.prog 125 = none ∧ tyInt Try.prog 125 = some IntKind.u32 ∧ tyStr Try.prog 125 = false ∧ tyBool Try.prog 125 = false ∧ tyArr Try.prog 125 = none ∧ tyArrA Try.prog 125 = none ∧ tyInts Try.prog 125 = none ∧ tyPlaces Try.prog 125 = none ∧ zeroLs Try.prog 125 = some (false, [D.raw (Value.int IntKind.u32 (0))]) ∧ Program.concrete Try.prog 125 = true := by and_intros <;> kernel_rfl
@[go_sem] theorem f_t127 : tySize Try.prog 127 = some 1 ∧ tyBytes Try.prog 127 = some 8 ∧ tyAg Try.prog 127 = some false ∧ tyEl Try.prog 127 = none ∧ tyInt Try.prog 127 = some IntKind.u64 ∧ tyStr Try.prog 127 = false ∧ tyBool Try.prog 127 = false ∧ tyArr Try.prog 127 = none ∧ tyArrA Try.prog 127 = none ∧ tyInts Try.prog 127 = none ∧ tyPlaces Try.prog 127 = none ∧ zeroLs Try.prog 127 = some (false, [D.raw (Value.int IntKind.u64 (0))]) ∧ Program.concrete Try.prog 127 = true := by and_intros <;> kernel_rfl
@[go_sem] theorem f_x_tyPtr : tyPtr Try.prog 68 = true := by kernel_rfl
@[go_sem] theorem f_x_tyFld : tyFld Try.prog 27 0 = some (0, 1) ∧ tyFld Try.prog 27 1 = some (1, 1) ∧ tyFld Try.prog 27 2 = some (2, 1) ∧ tyFld Try.prog 27 3 = some (3, 1) ∧ tyFld Try.prog 29 0 = some (0, 1) ∧ tyFld Try.prog 29 1 = some (1, 1) ∧ tyFld Try.prog 42 0 = some (0, 1) ∧ tyFld Try.prog 42 1 = some (1, 1) ∧ tyFld Try.prog 42 2 = some (2, 1) ∧ tyFld Try.prog 42 3 = some (3, 1) ∧ tyFld Try.prog 50 0 = some (0, 1) ∧ tyFld Try.prog 50 1 = some (1, 1) ∧ tyFld Try.prog 50 2 = some (2, 1) ∧ tyFld Try.prog 50 3 = some (3, 1) ∧ tyFld Try.prog 52 0 = some (0, 1) ∧ tyFld Try.prog 52 1 = some (1, 1) ∧ tyFld Try.prog 52 2 = some (2, 1) ∧ tyFld Try.prog 52 3 = some (3, 1) ∧ tyFld Try.prog 67 0 = some (0, 4) ∧ tyFld Try.prog 67 1 = some (4, 1) ∧ tyFld Try.prog 67 2 = some (5, 1) ∧ tyFld Try.prog 70 0 = some (0, 4) ∧ tyFld Try.prog 70 1 = some (4, 1) ∧ tyFld Try.prog 70 2 = some (5, 1) ∧ tyFld Try.prog 80 0 = some (0, 1) ∧ tyFld Try.prog 80 1 = some (1, 1) := by and_intros <;> kernel_rfl
@[go_sem] theorem f_x_canCall : canCall Try.prog 1 = false ∧ canCall Try.prog 8 = true ∧ canCall Try.prog 9 = true ∧ canCall Try.prog 10 = true ∧ canCall Try.prog 11 = true ∧ canCall Try.prog 12 = true ∧ canCall Try.prog 13 = true ∧ canCall Try.prog 14 = true ∧ canCall Try.prog 15 = true ∧ canCall Try.prog 16 = true ∧ canCall Try.prog 17 = true ∧ canCall Try.prog 18 = true ∧ canCall Try.prog 19 = true ∧ canCall Try.prog 20 = true ∧ canCall Try.prog 21 = true ∧ canCall Try.prog 22 = true ∧ canCall Try.prog 23 = true ∧ canCall Try.prog 24 = true ∧ canCall Try.prog 25 = true ∧ canCall Try.prog 26 = true ∧ canCall Try.prog 27 = true ∧ canCall Try.prog 28 = true ∧ canCall Try.prog 29 = true ∧ canCall Try.prog 30 = true ∧ canCall Try.prog 31 = true ∧ canCall Try.prog 32 = true ∧ canCall Try.prog 33 = true ∧ canCall Try.prog 34 = true ∧ canCall Try.prog 35 = true ∧ canCall Try.prog 36 = true ∧ canCall Try.prog 37 = true ∧ canCall Try.prog 38 = true ∧ canCall Try.prog 39 = true ∧ canCall Try.prog 40 = true ∧ canCall Try.prog 41 = true ∧ canCall Try.prog 42 = true ∧ canCall Try.prog 43 = true ∧ canCall Try.prog 44 = true ∧ canCall Try.prog 45 = true ∧ canCall Try.prog 46 = true ∧ canCall Try.prog 47 = true ∧ canCall Try.prog 48 = true ∧ canCall Try.prog 49 = true ∧ canCall Try.prog 50 = true ∧ canCall Try.prog 51 = true ∧ canCall Try.prog 52 = true ∧ canCall Try.prog 53 = true ∧ canCall Try.prog 54 = true ∧ canCall Try.prog 55 = true ∧ canCall Try.prog 56 = true ∧ canCall Try.prog 57 = true ∧ canCall Try.prog 58 = true ∧ canCall Try.prog 59 = true ∧ canCall Try.prog 60 = true ∧ canCall Try.prog 61 = true ∧ canCall Try.prog 62 = true ∧ canCall Try.prog 63 = true ∧ canCall Try.prog 64 = true ∧ canCall Try.prog 65 = true ∧ canCall Try.prog 66 = true ∧ canCall Try.prog 67 = true ∧ canCall Try.prog 68 = true ∧ canCall Try.prog 69 = true ∧ canCall Try.prog 70 = true ∧ canCall Try.prog 71 = true ∧ canCall Try.prog 72 = true ∧ canCall Try.prog 73 = true ∧ canCall Try.prog 74 = true ∧ canCall Try.prog 75 = true ∧ canCall Try.prog 76 = true ∧ canCall Try.prog 77 = true ∧ canCall Try.prog 78 = true ∧ canCall Try.prog 79 = true ∧ canCall Try.prog 80 = true ∧ canCall Try.prog 81 = true ∧ canCall Try.prog 82 = true ∧ canCall Try.prog 83 = true ∧ canCall Try.prog 84 = true ∧ canCall Try.prog 85 = true := by and_intros <;> kernel_rfl
@[go_sem] theorem f_x_tyMap : tyMap Try.prog 65 = some (3, 3) := by kernel_rfl
@[go_sem] theorem f_x_tyKey : tyKey Try.prog 3 = some 0 := by kernel_rfl
end Go.Mw
namespace Go.Mw
section
variable {α : Type} (lt : α → α → Bool)
def scanE (x : α) (l : List α) : Nat → Nat
  | 0 => 0
  | n + 1 => match l[n]? with
    | some y => if lt x y = true then scanE x l n else n + 1
    | none => n + 1
def insE (x : α) (l : List α) : List α := l.take (scanE lt x l l.length) ++ [x] ++ l.drop (scanE lt x l l.length)
def isortE (l : List α) : List α := l.foldl (fun acc x => insE lt x acc) []
/-- A row in which x stands between what came in before. -/
def Lt (p t r : List α) (x : α) (c : Nat) : List α := p ++ (t.take c ++ [x] ++ t.drop c) ++ r

variable {lt}
theorem scanE_le (x : α) (l : List α) : ∀ n, scanE lt x l n ≤ n
  | 0 => Nat.le_refl 0
  | n + 1 => by
    unfold scanE
    split
    · split
      · exact Nat.le_succ_of_le (scanE_le x l n)
      · exact Nat.le_refl _
    · exact Nat.le_refl _
theorem scanE_yes {x y : α} {l : List α} {n : Nat} (h : l[n]? = some y) (hl : lt x y = true) : scanE lt x l (n + 1) = scanE lt x l n := by
  rw [scanE, h]; simp [hl]
theorem scanE_no {x y : α} {l : List α} {n : Nat} (h : l[n]? = some y) (hl : lt x y = false) : scanE lt x l (n + 1) = n + 1 := by
  rw [scanE, h]; simp [hl]
theorem len_insE (x : α) (l : List α) : (insE lt x l).length = l.length + 1 := by
  have := scanE_le (lt := lt) x l l.length
  unfold insE; simp; omega
theorem isortE_snoc (l : List α) (x : α) : isortE lt (l ++ [x]) = insE lt x (isortE lt l) := by
  unfold isortE; simp [List.foldl_append]
theorem len_isortE (l : List α) : (isortE lt l).length = l.length := by
  suffices h : ∀ (n : Nat) (l : List α), l.length = n → (isortE lt l).length = n from h _ l rfl
  intro n
  induction n with
  | zero => intro l h; rw [List.eq_nil_of_length_eq_zero h]; rfl
  | succ n ih =>
    intro l h
    obtain ⟨m, x, rfl⟩ : ∃ m x, l = m ++ [x] := by
      refine ⟨l.dropLast, l.getLast (by intro e; simp [e] at h), ?_⟩
      exact (List.dropLast_concat_getLast _).symm
    rw [isortE_snoc, len_insE, ih m (by simpa using h)]
theorem isortE_one (l : List α) : isortE lt (l.take 1) ++ l.drop 1 = l := by
  cases l with
  | nil => rfl
  | cons x l => simp [isortE, insE, scanE]
theorem Lt_len {p t r : List α} {x : α} {c : Nat} (h : c ≤ t.length) : (Lt p t r x c).length = p.length + (t.length + 1) + r.length := by
  unfold Lt; simp; omega
theorem Lt_x {p t r : List α} {x : α} {c : Nat} (h : c ≤ t.length) : (Lt p t r x c)[p.length + c]? = some x := by
  unfold Lt
  have h1 : (t.take c).length = c := by simp; omega
  rw [List.append_assoc, List.append_assoc, List.append_assoc, List.getElem?_append_right (by omega), Nat.add_sub_cancel_left, List.getElem?_append_right (by omega), h1, Nat.sub_self]
  simp
theorem Lt_y {p t r : List α} {x y : α} {c : Nat} (h : t[c]? = some y) : (Lt p t r x (c + 1))[p.length + c]? = some y := by
  have hc : c < t.length := (List.getElem?_eq_some_iff.1 h).1
  unfold Lt
  rw [List.append_assoc, List.append_assoc, List.append_assoc, List.getElem?_append_right (by omega), Nat.add_sub_cancel_left, List.getElem?_append_left (by simp; omega), List.getElem?_take, if_pos (by omega), h]
theorem Lt_set {p t r : List α} {x y : α} {c : Nat} (h : t[c]? = some y) : ((Lt p t r x (c + 1)).set (p.length + (c + 1)) y).set (p.length + c) x = Lt p t r x c := by
  have hc : c < t.length := (List.getElem?_eq_some_iff.1 h).1
  have hd : t.drop c = y :: t.drop (c + 1) := by
    obtain ⟨hk, rfl⟩ := List.getElem?_eq_some_iff.1 h
    exact (List.getElem_cons_drop hk).symm
  have ht : t.take (c + 1) = t.take c ++ [y] := by rw [List.take_succ, h]; rfl
  unfold Lt
  rw [hd, ht]
  have h1 : (t.take c).length = c := by simp; omega
  simp only [List.append_assoc]
  rw [List.set_append_right _ _ (by omega), List.set_append_right _ _ (by omega)]
  simp only [Nat.add_sub_cancel_left]
  rw [List.set_append_right _ _ (by omega), h1, List.set_append_right _ _ (by omega), h1]
  simp
theorem Lt_start {p t r : List α} {x : α} : Lt p t r x t.length = p ++ (t ++ [x]) ++ r := by unfold Lt; simp
theorem Lt_ins {p t r : List α} {x : α} : Lt p t r x (scanE lt x t t.length) = p ++ insE lt x t ++ r := rfl
end
end Go.Mw
namespace Go.Mw

section mg
variable {α : Type} (lt : α → α → Bool)
/-- The stable merge. -/
def mg : List α → List α → List α
  | [], r => r
  | a :: l, [] => a :: l
  | a :: l, b :: r => if lt b a = true then b :: mg (a :: l) r else a :: mg l (b :: r)
termination_by l r => l.length + r.length
variable {lt}
/-- In order: what comes later is not before what came earlier. -/
def InO (lt : α → α → Bool) (l : List α) : Prop := l.Pairwise fun x y => lt y x = false
/-- An order in which things can be alike. -/
structure Weak (lt : α → α → Bool) : Prop where
  irr : ∀ x, lt x x = false
  tr : ∀ x y z, lt x y = true → lt y z = true → lt x z = true
  nt : ∀ x y z, lt x y = false → lt y z = false → lt x z = false
theorem Weak.asym (h : Weak lt) {x y : α} (hxy : lt x y = true) : lt y x = false := by
  cases hc : lt y x with
  | false => rfl
  | true => have := h.tr x y x hxy hc; rw [h.irr] at this; cases this
/-- Where a new one comes in. -/
theorem scan_cut (h : Weak lt) {x : α} {l : List α} (ho : InO lt l) : ∀ n, n ≤ l.length → (∀ y ∈ (l.take n).take (scanE lt x l n), lt x y = false) ∧ (∀ y ∈ (l.take n).drop (scanE lt x l n), lt x y = true)
  | 0, _ => by simp
  | n + 1, hn => by
    have hx : l[n]? = some l[n] := List.getElem?_eq_getElem (by omega)
    have ih := scan_cut h (x := x) ho n (by omega)
    have hle := scanE_le (lt := lt) x l n
    have ht : l.take (n + 1) = l.take n ++ [l[n]] := by rw [List.take_add_one, hx]; rfl
    have hl : (l.take n).length = n := by simp; omega
    cases hc : lt x l[n] with
    | true =>
      rw [scanE_yes hx hc, ht]
      refine ⟨fun y hy => ?_, fun y hy => ?_⟩
      · rw [List.take_append_of_le_length (by omega)] at hy
        exact ih.1 y hy
      · rw [List.drop_append_of_le_length (by omega)] at hy
        rcases List.mem_append.1 hy with hy | hy
        · exact ih.2 y hy
        · rw [List.mem_singleton.1 hy]; exact hc
    | false =>
      rw [scanE_no hx hc, ht]
      refine ⟨fun y hy => ?_, fun y hy => ?_⟩
      · rw [List.take_of_length_le (by simp; omega)] at hy
        rcases List.mem_append.1 hy with hy | hy
        · obtain ⟨i, hi⟩ := List.getElem?_of_mem hy
          rw [List.getElem?_take] at hi
          split at hi
          · rename_i hin
            obtain ⟨q1, q2⟩ := List.getElem?_eq_some_iff.1 hi
            have := List.pairwise_iff_getElem.1 ho i n q1 (by omega) hin
            rw [q2] at this
            exact h.nt x l[n] y hc this
          · cases hi
        · rw [List.mem_singleton.1 hy]; exact hc
      · rw [List.drop_of_length_le (by simp; omega)] at hy
        simp at hy
theorem ins_cut (h : Weak lt) {x : α} {l : List α} (ho : InO lt l) : ∃ l1 l2, l = l1 ++ l2 ∧ insE lt x l = l1 ++ [x] ++ l2 ∧ (∀ y ∈ l1, lt x y = false) ∧ (∀ y ∈ l2, lt x y = true) := by
  have hc := scan_cut h (x := x) ho l.length (Nat.le_refl _)
  rw [List.take_length] at hc
  exact ⟨l.take (scanE lt x l l.length), l.drop (scanE lt x l l.length), (List.take_append_drop _ _).symm, rfl, hc.1, hc.2⟩
/-- Where it comes in is settled by what is before it and what is behind it. -/
theorem ins_at {x : α} : ∀ {l2 l1 : List α}, (∀ y ∈ l1, lt x y = false) → (∀ y ∈ l2, lt x y = true) → insE lt x (l1 ++ l2) = l1 ++ [x] ++ l2 := by
  intro l2 l1 h1 h2
  have key : ∀ n, n ≤ l2.length → scanE lt x (l1 ++ l2) (l1.length + n) = l1.length := by
    intro n
    induction n with
    | zero =>
      intro _
      rw [Nat.add_zero]
      cases hl : l1.length with
      | zero => rfl
      | succ m =>
        have hm : m < l1.length := by omega
        have hg : (l1 ++ l2)[m]? = some l1[m] := by rw [List.getElem?_append_left hm]; exact List.getElem?_eq_getElem hm
        exact scanE_no hg (h1 _ (List.getElem_mem hm))
    | succ n ih =>
      intro hn
      have hg : (l1 ++ l2)[l1.length + n]? = some l2[n] := by rw [List.getElem?_append_right (by omega), Nat.add_sub_cancel_left]; exact List.getElem?_eq_getElem (by omega)
      rw [← Nat.add_assoc, scanE_yes hg (h2 _ (List.getElem_mem (by omega)))]
      exact ih (by omega)
  unfold insE
  rw [List.length_append, key _ (Nat.le_refl _), List.take_left, List.drop_left]
theorem ino_ins (h : Weak lt) {x : α} {l : List α} (ho : InO lt l) : InO lt (insE lt x l) := by
  obtain ⟨l1, l2, rfl, e, h1, h2⟩ := ins_cut h (x := x) ho
  rw [e]
  unfold InO at *
  rw [List.pairwise_append] at ho
  rw [List.append_assoc, List.pairwise_append]
  refine ⟨ho.1, ?_, fun y hy z hz => ?_⟩
  · show ((x :: l2)).Pairwise _
    rw [List.pairwise_cons]
    exact ⟨fun y hy => h.asym (h2 y hy), ho.2.1⟩
  · rcases List.mem_append.1 hz with hz | hz
    · rw [List.mem_singleton.1 hz]; exact h1 y hy
    · exact ho.2.2 y hy z hz
theorem snoc_ind {p : List α → Prop} (h0 : p []) (h1 : ∀ l x, p l → p (l ++ [x])) : ∀ l, p l := by
  intro l
  have : ∀ n (l : List α), l.length = n → p l := by
    intro n
    induction n with
    | zero => intro l hl; rw [List.eq_nil_of_length_eq_zero hl]; exact h0
    | succ n ih =>
      intro l hl
      have hne : l ≠ [] := fun e => by subst e; simp at hl
      rw [← List.dropLast_concat_getLast hne]
      exact h1 _ _ (ih _ (by simp; omega))
  exact this _ l rfl
theorem ino_sort (h : Weak lt) : ∀ l : List α, InO lt (isortE lt l) := by
  refine snoc_ind (by unfold InO isortE; simp) fun l x ih => ?_
  rw [isortE_snoc]
  exact ino_ins h ih
end mg
end Go.Mw
namespace Go.Te
open Go.Mw

structure Cls where
  term : Int
  times : Int
  more : Int
  fail : Int
deriving DecidableEq, Inhabited
structure Sl where
  fr : Int
  to : Int
  cl : Int
  day : Int
deriving DecidableEq, Inhabited
structure Pf where
  cl : Int
  day : Int
  seals : List Int
  failed : Int
deriving DecidableEq, Inhabited
structure Br where
  no : Int
  day : Int
deriving DecidableEq, Inhabited
structure Stk where
  cs : List Cls
  rs : List Sl
  ps : List Pf
  bs : List Br
deriving DecidableEq, Inhabited

def inB (n l h : Int) : Bool := decide (l ≤ n) && decide (n ≤ h)
theorem inB_iff {n l h : Int} : inB n l h = true ↔ l ≤ n ∧ n ≤ h := by simp [inB]
def clsOK (c : Cls) : Bool := inB c.term 1 10000 && inB c.more 1 10000 && inB c.times 0 4 && inB c.fail 0 20
def slOK (n : Nat) (r : Sl) : Bool := inB r.to 1 1000000 && inB r.fr 1 r.to && inB r.cl 0 ((n : Int) - 1) && inB r.day 0 131072
def pfForm (n : Nat) (p : Pf) : Bool := inB p.cl 0 ((n : Int) - 1) && inB p.day 0 131072 && inB (p.seals.length : Int) 1 20
def pfOK (n : Nat) (p : Pf) : Bool := pfForm n p && inB p.failed 0 (2 ^ p.seals.length - 1) && p.seals.all fun x => inB x 1 1000000
def brOK (b : Br) : Bool := inB b.no 1 1000000 && inB b.day 0 131072
def sizesB (s : Stk) : Bool := decide (s.cs.length ≤ 5) && decide (s.rs.length ≤ 24) && decide (s.ps.length ≤ 12) && decide (s.bs.length ≤ 24)
def stockB (s : Stk) : Bool := sizesB s && s.cs.all clsOK && s.rs.all (slOK s.cs.length) && s.ps.all (pfOK s.cs.length) && s.bs.all brOK

/-- The first place at which something is not 0. -/
def firstE (f : Nat → Int) : Nat → Option Nat
  | 0 => none
  | n + 1 => match firstE f n with
    | some k => some k
    | none => if f n = 0 then none else some n
theorem firstE_none {f : Nat → Int} : ∀ {n : Nat}, firstE f n = none ↔ ∀ k, k < n → f k = 0
  | 0 => by simp [firstE]
  | n + 1 => by
    have ih := firstE_none (f := f) (n := n)
    unfold firstE
    cases h : firstE f n with
    | some k =>
      simp only [reduceCtorEq, false_iff]
      intro hall
      rw [ih.2 fun k hk => hall k (by omega)] at h
      cases h
    | none =>
      have h := ih.1 h
      by_cases hn : f n = 0
      · simp only [hn, if_true, true_iff]
        intro k hk
        rcases Nat.lt_or_eq_of_le (Nat.le_of_lt_succ hk) with h1 | rfl
        · exact h k h1
        · exact hn
      · simp only [hn, if_false, reduceCtorEq, false_iff]
        exact fun hall => hn (hall n (by omega))
theorem firstE_some {f : Nat → Int} {k : Nat} (h0 : ∀ j, j < k → f j = 0) (h1 : f k ≠ 0) : ∀ {n : Nat}, k < n → firstE f n = some k
  | 0, h => by omega
  | n + 1, h => by
    unfold firstE
    rcases Nat.lt_or_eq_of_le (Nat.le_of_lt_succ h) with h2 | rfl
    · rw [firstE_some h0 h1 h2]
    · rw [firstE_none.2 h0]
      simp [h1]
theorem firstE_get {f : Nat → Int} : ∀ {n k : Nat}, firstE f n = some k → k < n ∧ f k ≠ 0 ∧ ∀ j, j < k → f j = 0
  | 0, _, h => by cases h
  | n + 1, k, h => by
    unfold firstE at h
    cases hf : firstE f n with
    | some j =>
      simp only [hf, Option.some.injEq] at h
      subst h
      obtain ⟨h1, h2, h3⟩ := firstE_get hf
      exact ⟨by omega, h2, h3⟩
    | none =>
      simp only [hf] at h
      split at h
      · cases h
      · rename_i hn
        cases h
        exact ⟨by omega, hn, firstE_none.1 hf⟩

def clsOf (s : Stk) (n : Int) : Cls := s.cs.getD n.toNat default
def rowOf (s : Stk) (i : Nat) : Sl := s.rs.getD i default
def prOf (s : Stk) (i : Nat) : Pf := s.ps.getD i default
def brOf (s : Stk) (i : Nat) : Br := s.bs.getD i default

/-- The place of a seal's row. -/
def rowI (s : Stk) (x : Int) : Option Nat := s.rs.findIdx? fun r => inB x r.fr r.to
/-- Is a seal broken on a day? -/
def brkD (s : Stk) (x : Int) : Option Br := s.bs.find? fun b => b.no == x
def isBrk (s : Stk) (x d : Int) : Bool := match brkD s x with
  | some b => decide (b.day ≤ d)
  | none => false

/-- The places of the proofs, as they come. -/
def ordI (s : Stk) : List Nat := isortE (fun i j => decide ((prOf s i).day < (prOf s j).day)) (List.range s.ps.length)

/-- The number of ones. -/
def popc (n : Nat) : Nat := if h : n = 0 then 0 else n % 2 + popc (n / 2)
termination_by n
decreasing_by omega

def inForce (r : Sl) (e d : Int) : Bool := decide (r.day ≤ d) && decide (d < e)
def passB (s : Stk) (p : Pf) : Bool := decide ((popc p.failed.toNat : Int) ≤ (clsOf s p.cl).fail)
/-- A row's term after a proof. -/
def step1 (s : Stk) (p : Pf) (r : Sl) (t : Int × Int) : Int × Int :=
  if r.cl = p.cl ∧ inForce r t.1 p.day = true then
    if passB s p = false then (p.day + 1, t.2)
    else if t.2 < (clsOf s p.cl).times then (t.1 + (clsOf s p.cl).more, t.2 + 1) else t
  else t
def aftT (s : Stk) (p : Pf) (l : List (Int × Int)) : List (Int × Int) := List.zipWith (step1 s p) s.rs l
def begins (s : Stk) : List (Int × Int) := s.rs.map fun r => (r.day + (clsOf s r.cl).term, 0)
/-- The terms after so many proofs. -/
def stAt (s : Stk) : Nat → List (Int × Int)
  | 0 => begins s
  | n + 1 => aftT s (prOf s ((ordI s).getD n 0)) (stAt s n)

def endAt (l : List (Int × Int)) (i : Nat) : Int × Int := l.getD i (0, 0)
/-- What is wrong with a proof's seal. -/
def sealErr (s : Stk) (l : List (Int × Int)) (p : Pf) (k : Nat) : Int := match rowI s (p.seals.getD k 0) with
  | none => 4
  | some i => if (rowOf s i).cl ≠ p.cl then 11 else if (p.seals.take k).contains (p.seals.getD k 0) = true then 5
    else if inForce (rowOf s i) (endAt l i).1 p.day = false ∨ isBrk s (p.seals.getD k 0) p.day = true then 6 else 0
def errOf (f : Nat → Int) : Option Nat → Int
  | some k => f k
  | none => 0
def prfErr (s : Stk) (l : List (Int × Int)) (p : Pf) : Int := errOf (sealErr s l p) (firstE (sealErr s l p) p.seals.length)
def overl (o r : Sl) : Bool := decide (r.fr ≤ o.to) && decide (o.fr ≤ r.to)
def rowErr (s : Stk) (i : Nat) : Int := if (s.rs.take i).any (fun o => overl o (rowOf s i)) = true then 5 else 0
def brErr (s : Stk) (i : Nat) : Int := match rowI s (brOf s i).no with
  | none => 4
  | some j => if (s.bs.take i).any (fun b => b.no == (brOf s i).no) = true then 5 else if (brOf s i).day < (rowOf s j).day then 7 else 0
def prErr (s : Stk) (i : Nat) : Int := prfErr s (stAt s i) (prOf s ((ordI s).getD i 0))

/-- The terms of all rows; or the place of what is wrong, and the error. -/
def termsR (s : Stk) : List (Int × Int) × Int × Int :=
  if stockB s = false then ([], 0, 1) else match firstE (rowErr s) s.rs.length with
    | some i => ([], i, 5)
    | none => match firstE (brErr s) s.bs.length with
      | some i => ([], i, brErr s i)
      | none => match firstE (prErr s) s.ps.length with
        | some i => ([], ((ordI s).getD i 0 : Nat), prErr s i)
        | none => (stAt s s.ps.length, 0, 0)
def goodB (s : Stk) : Bool := decide ((termsR s).2.2 = 0)

def endR (s : Stk) (x : Int) : Int × Int × Int :=
  if (termsR s).2.2 = 0 then match rowI s x with
    | none => (0, 0, 4)
    | some i => ((endAt (termsR s).1 i).1, (endAt (termsR s).1 i).2, 0)
  else (0, 0, (termsR s).2.2)

def stOf (r : Sl) (e d : Int) : Int := if d < r.day then 0 else if d < e then 1 else 2
/-- How a seal of a row stands. -/
def stSeal (s : Stk) (l : List (Int × Int)) (i : Nat) (x d : Int) : Int :=
  if d < (rowOf s i).day then 0 else if isBrk s x d = true then 3 else if d < (endAt l i).1 then 1 else 2
def statR (s : Stk) (x d : Int) : Int × Int :=
  if (termsR s).2.2 = 0 then match rowI s x with
    | none => (0, 4)
    | some i => if inB d 0 131072 = false then (0, 2) else (if isBrk s x d = true then 3 else stOf (rowOf s i) (endAt (termsR s).1 i).1 d, 0)
  else (0, (termsR s).2.2)

/-- The broken seals of a row on a day. -/
def brkOf (s : Stk) (r : Sl) (d : Int) : Int := (s.bs.countP fun b => inB b.no r.fr r.to && decide (b.day ≤ d) : Nat)
def addAt (l : List Int) (i : Int) (v : Int) : List Int := l.set i.toNat (l.getD i.toNat 0 + v)
/-- How many seals stand how: row by row. -/
def cntTo (s : Stk) (l : List (Int × Int)) (d : Int) : Nat → List Int
  | 0 => [0, 0, 0, 0]
  | n + 1 => addAt (addAt (cntTo s l d n) (stOf (rowOf s n) (endAt l n).1 d) ((rowOf s n).to - (rowOf s n).fr + 1 - brkOf s (rowOf s n) d)) 3 (brkOf s (rowOf s n) d)
def countR (s : Stk) (d : Int) : List Int × Int :=
  if (termsR s).2.2 = 0 then if inB d 0 131072 = false then ([], 2) else (cntTo s (termsR s).1 d s.rs.length, 0) else ([], (termsR s).2.2)
def dueTo (s : Stk) (l : List (Int × Int)) (lo hi : Int) : Nat → List Int
  | 0 => List.replicate s.cs.length 0
  | n + 1 => if inB (endAt l n).1 lo hi = true then addAt (dueTo s l lo hi n) (rowOf s n).cl ((rowOf s n).to - (rowOf s n).fr + 1 - brkOf s (rowOf s n) (endAt l n).1) else dueTo s l lo hi n
def dueErr (lo hi : Int) : Bool := decide (lo < 0) || decide (lo > hi) || decide (hi > 131072)
def dueR (s : Stk) (lo hi : Int) : List Int × Int :=
  if (termsR s).2.2 = 0 then if dueErr lo hi = true then ([], 2) else (dueTo s (termsR s).1 lo hi s.rs.length, 0) else ([], (termsR s).2.2)

end Go.Te
namespace Go.Te
open Go.Mw

structure Val (s : Stk) : Prop where
  ncs : s.cs.length ≤ 5
  nrs : s.rs.length ≤ 24
  nps : s.ps.length ≤ 12
  nbs : s.bs.length ≤ 24
  cls : ∀ c ∈ s.cs, (1 ≤ c.term ∧ c.term ≤ 10000) ∧ (1 ≤ c.more ∧ c.more ≤ 10000) ∧ (0 ≤ c.times ∧ c.times ≤ 4) ∧ 0 ≤ c.fail ∧ c.fail ≤ 20
  row : ∀ r ∈ s.rs, (1 ≤ r.fr ∧ r.fr ≤ r.to ∧ r.to ≤ 1000000) ∧ (0 ≤ r.cl ∧ r.cl < s.cs.length) ∧ 0 ≤ r.day ∧ r.day ≤ 131072
  prf : ∀ p ∈ s.ps, (0 ≤ p.cl ∧ p.cl < s.cs.length) ∧ (0 ≤ p.day ∧ p.day ≤ 131072) ∧ (1 ≤ p.seals.length ∧ p.seals.length ≤ 20) ∧ (0 ≤ p.failed ∧ p.failed ≤ 1048575) ∧ ∀ x ∈ p.seals, 1 ≤ x ∧ x ≤ 1000000
  brk : ∀ b ∈ s.bs, (1 ≤ b.no ∧ b.no ≤ 1000000) ∧ 0 ≤ b.day ∧ b.day ≤ 131072

theorem stock_val {s : Stk} (h : stockB s = true) : Val s := by
  unfold stockB at h
  simp only [Bool.and_eq_true, List.all_eq_true] at h
  obtain ⟨⟨⟨⟨h0, h1⟩, h2⟩, h3⟩, h4⟩ := h
  simp only [sizesB, Bool.and_eq_true, decide_eq_true_eq] at h0
  refine ⟨h0.1.1.1, h0.1.1.2, h0.1.2, h0.2, fun c hc => ?_, fun r hr => ?_, fun p hp => ?_, fun b hb => ?_⟩
  · have := h1 c hc
    simp only [clsOK, Bool.and_eq_true, inB_iff] at this
    omega
  · have := h2 r hr
    simp only [slOK, Bool.and_eq_true, inB_iff] at this
    omega
  · have := h3 p hp
    simp only [pfOK, pfForm, Bool.and_eq_true, inB_iff, List.all_eq_true] at this
    obtain ⟨⟨⟨⟨g1, g2⟩, g3⟩, g4⟩, g5⟩ := this
    have hl : p.seals.length ≤ 20 := by omega
    have h5 : (2 : Int) ^ p.seals.length ≤ 1048576 := by
      have h1 : 2 ^ p.seals.length ≤ 2 ^ 20 := Nat.pow_le_pow_right (by decide) hl
      have e : (2 : Int) ^ p.seals.length = ((2 ^ p.seals.length : Nat) : Int) := by simp
      have h3 : (2 : Nat) ^ 20 = 1048576 := by decide
      omega
    exact ⟨by omega, by omega, by omega, by omega, g5⟩
  · have := h4 b hb
    simp only [brOK, Bool.and_eq_true, inB_iff] at this
    omega

theorem getD_of {α : Type} {l : List α} {i : Nat} {a d : α} (h : l[i]? = some a) : l.getD i d = a := by simp [List.getD, h]
theorem rowOf_of {s : Stk} {i : Nat} {r : Sl} (h : s.rs[i]? = some r) : rowOf s i = r := getD_of h
theorem prOf_of {s : Stk} {i : Nat} {p : Pf} (h : s.ps[i]? = some p) : prOf s i = p := getD_of h
theorem brOf_of {s : Stk} {i : Nat} {b : Br} (h : s.bs[i]? = some b) : brOf s i = b := getD_of h
theorem endAt_of {l : List (Int × Int)} {i : Nat} {t : Int × Int} (h : l[i]? = some t) : endAt l i = t := getD_of h
theorem clsOf_get {s : Stk} {n : Int} (h0 : 0 ≤ n) (h1 : n < s.cs.length) : s.cs[n.toNat]? = some (clsOf s n) := by
  have : n.toNat < s.cs.length := by omega
  rw [List.getElem?_eq_getElem this]
  simp [clsOf, List.getD, List.getElem?_eq_getElem this]
theorem rowOf_get {s : Stk} {i : Nat} (h : i < s.rs.length) : s.rs[i]? = some (rowOf s i) := by
  rw [List.getElem?_eq_getElem h]; simp [rowOf, List.getD, List.getElem?_eq_getElem h]
theorem prOf_get {s : Stk} {i : Nat} (h : i < s.ps.length) : s.ps[i]? = some (prOf s i) := by
  rw [List.getElem?_eq_getElem h]; simp [prOf, List.getD, List.getElem?_eq_getElem h]
theorem brOf_get {s : Stk} {i : Nat} (h : i < s.bs.length) : s.bs[i]? = some (brOf s i) := by
  rw [List.getElem?_eq_getElem h]; simp [brOf, List.getD, List.getElem?_eq_getElem h]
theorem rowOf_mem {s : Stk} {i : Nat} (h : i < s.rs.length) : rowOf s i ∈ s.rs := List.mem_of_getElem? (rowOf_get h)
theorem prOf_mem {s : Stk} {i : Nat} (h : i < s.ps.length) : prOf s i ∈ s.ps := List.mem_of_getElem? (prOf_get h)
theorem brOf_mem {s : Stk} {i : Nat} (h : i < s.bs.length) : brOf s i ∈ s.bs := List.mem_of_getElem? (brOf_get h)
theorem rowI_lt {s : Stk} {x : Int} {i : Nat} (h : rowI s x = some i) : i < s.rs.length ∧ (rowOf s i).fr ≤ x ∧ x ≤ (rowOf s i).to := by
  obtain ⟨hi, h1, _⟩ := List.findIdx?_eq_some_iff_getElem.1 h
  refine ⟨hi, ?_⟩
  rw [rowOf_of (List.getElem?_eq_getElem hi)]
  exact inB_iff.1 h1

theorem popc_zero : popc 0 = 0 := by rw [popc]; simp
theorem popc_pos {n : Nat} (h : n ≠ 0) : popc n = n % 2 + popc (n / 2) := by rw [popc]; simp [h]
theorem popc_le : ∀ (n : Nat), popc n ≤ n := by
  intro n
  induction n using Nat.strongRecOn with
  | ind n ih =>
    by_cases h : n = 0
    · subst h; rw [popc_zero]; exact Nat.le_refl _
    · rw [popc_pos h]
      have := ih (n / 2) (by omega)
      omega

/-- The terms of a stock that is valid are small. -/
structure TmB (s : Stk) (l : List (Int × Int)) : Prop where
  len : l.length = s.rs.length
  bnd : ∀ t ∈ l, 0 ≤ t.1 ∧ t.1 ≤ 150000 + 10000 * t.2 ∧ 0 ≤ t.2 ∧ t.2 ≤ 4

theorem cls_mem {s : Stk} {n : Int} (h0 : 0 ≤ n) (h1 : n < s.cs.length) : clsOf s n ∈ s.cs := List.mem_of_getElem? (clsOf_get h0 h1)
theorem tmb_begin {s : Stk} (v : Val s) : TmB s (begins s) := by
  refine ⟨by simp [begins], fun t ht => ?_⟩
  obtain ⟨r, hr, rfl⟩ := List.mem_map.1 ht
  have h1 := v.row r hr
  have h2 := v.cls _ (cls_mem h1.2.1.1 h1.2.1.2)
  simp only
  omega
theorem step1_bnd {s : Stk} (v : Val s) {p : Pf} (hp : 0 ≤ p.day ∧ p.day ≤ 131072) (hc : 0 ≤ p.cl ∧ p.cl < s.cs.length) {r : Sl} {t : Int × Int} (h : 0 ≤ t.1 ∧ t.1 ≤ 150000 + 10000 * t.2 ∧ 0 ≤ t.2 ∧ t.2 ≤ 4) :
    0 ≤ (step1 s p r t).1 ∧ (step1 s p r t).1 ≤ 150000 + 10000 * (step1 s p r t).2 ∧ 0 ≤ (step1 s p r t).2 ∧ (step1 s p r t).2 ≤ 4 := by
  have h2 := v.cls _ (cls_mem hc.1 hc.2)
  unfold step1
  split
  · split
    · simp only; omega
    · split
      · simp only; omega
      · exact h
  · exact h
theorem aftT_len {s : Stk} {p : Pf} {l : List (Int × Int)} (h : l.length = s.rs.length) : (aftT s p l).length = s.rs.length := by
  unfold aftT; rw [List.length_zipWith]; omega
theorem aftT_get {s : Stk} {p : Pf} {l : List (Int × Int)} {i : Nat} {t : Int × Int} (h : l.length = s.rs.length) (ht : l[i]? = some t) : (aftT s p l)[i]? = some (step1 s p (rowOf s i) t) := by
  have hi : i < s.rs.length := by have := (List.getElem?_eq_some_iff.1 ht).1; omega
  unfold aftT
  rw [List.getElem?_zipWith, rowOf_get hi, ht]
theorem tmb_after {s : Stk} (v : Val s) {p : Pf} (hp : 0 ≤ p.day ∧ p.day ≤ 131072) (hc : 0 ≤ p.cl ∧ p.cl < s.cs.length) {l : List (Int × Int)} (h : TmB s l) : TmB s (aftT s p l) := by
  refine ⟨aftT_len h.len, fun t ht => ?_⟩
  obtain ⟨i, hi⟩ := List.getElem?_of_mem ht
  have hil : i < l.length := by
    have := (List.getElem?_eq_some_iff.1 hi).1
    rw [aftT_len h.len] at this
    rw [h.len]; exact this
  have h1 := aftT_get (p := p) h.len (List.getElem?_eq_getElem hil)
  rw [hi] at h1
  cases h1
  exact step1_bnd v hp hc (h.bnd _ (List.getElem_mem hil))

/-- The terms, when the first rows have been looked at. -/
def aftK (s : Stk) (p : Pf) (l : List (Int × Int)) (k : Nat) : List (Int × Int) := (aftT s p l).take k ++ l.drop k
theorem aft_zero (s : Stk) (p : Pf) (l : List (Int × Int)) : aftK s p l 0 = l := rfl
theorem aft_end {s : Stk} {p : Pf} {l : List (Int × Int)} {k : Nat} (h : l.length = s.rs.length) (hk : s.rs.length ≤ k) : aftK s p l k = aftT s p l := by
  unfold aftK
  rw [List.take_of_length_le (by rw [aftT_len h]; exact hk), List.drop_eq_nil_of_le (by omega), List.append_nil]
theorem aft_len {s : Stk} {p : Pf} {l : List (Int × Int)} {k : Nat} (h : l.length = s.rs.length) (hk : k ≤ s.rs.length) : (aftK s p l k).length = s.rs.length := by
  unfold aftK
  rw [List.length_append, List.length_take, List.length_drop, aftT_len h]
  omega
theorem aft_at {s : Stk} {p : Pf} {l : List (Int × Int)} {k : Nat} {t : Int × Int} (h : l.length = s.rs.length) (ht : l[k]? = some t) : (aftK s p l k)[k]? = some t := by
  have hk : k < l.length := (List.getElem?_eq_some_iff.1 ht).1
  unfold aftK
  rw [List.getElem?_append_right (by rw [List.length_take, aftT_len h]; omega), List.length_take, aftT_len h]
  rw [List.getElem?_drop, Nat.min_eq_left (by omega)]
  simpa using ht
theorem aft_succ {s : Stk} {p : Pf} {l : List (Int × Int)} {k : Nat} {t : Int × Int} (h : l.length = s.rs.length) (ht : l[k]? = some t) : aftK s p l (k + 1) = (aftK s p l k).set k (step1 s p (rowOf s k) t) := by
  have hk : k < l.length := (List.getElem?_eq_some_iff.1 ht).1
  apply List.ext_getElem?
  intro i
  have hlen := aft_len (p := p) h (k := k) (by omega)
  rw [List.getElem?_set]
  by_cases hi : k = i
  · subst hi
    rw [if_pos rfl, if_pos (by omega)]
    unfold aftK
    rw [List.getElem?_append_left (by rw [List.length_take, aftT_len h]; omega), List.getElem?_take, if_pos (by omega)]
    exact aftT_get h ht
  · rw [if_neg hi]
    unfold aftK
    by_cases h2 : i < k
    · rw [List.getElem?_append_left (by rw [List.length_take, aftT_len h]; omega), List.getElem?_append_left (by rw [List.length_take, aftT_len h]; omega), List.getElem?_take, List.getElem?_take, if_pos (by omega), if_pos h2]
    · rw [List.getElem?_append_right (by rw [List.length_take, aftT_len h]; omega), List.getElem?_append_right (by rw [List.length_take, aftT_len h]; omega), List.length_take, List.length_take, aftT_len h, List.getElem?_drop, List.getElem?_drop]
      congr 1
      omega
theorem aft_same {s : Stk} {p : Pf} {l : List (Int × Int)} {k : Nat} {t : Int × Int} (h : l.length = s.rs.length) (ht : l[k]? = some t) (e : step1 s p (rowOf s k) t = t) : aftK s p l (k + 1) = aftK s p l k := by
  rw [aft_succ h ht, e]
  have := aft_at (p := p) h ht
  obtain ⟨h1, h2⟩ := List.getElem?_eq_some_iff.1 this
  rw [← h2]
  exact List.set_getElem_self h1

theorem ord_len (s : Stk) : (ordI s).length = s.ps.length := by unfold ordI; rw [len_isortE]; simp
theorem mem_insE {α : Type} {lt : α → α → Bool} {x y : α} {l : List α} : y ∈ insE lt x l ↔ y = x ∨ y ∈ l := by
  unfold insE
  simp only [List.mem_append, List.mem_singleton]
  constructor
  · rintro ((h | h) | h)
    · exact .inr (List.mem_of_mem_take h)
    · exact .inl h
    · exact .inr (List.mem_of_mem_drop h)
  · rintro (h | h)
    · exact .inl (.inr h)
    · have := List.take_append_drop (scanE lt x l l.length) l
      rw [← this] at h
      rcases List.mem_append.1 h with h | h
      · exact .inl (.inl h)
      · exact .inr h
theorem mem_isortE {α : Type} {lt : α → α → Bool} {y : α} : ∀ {l : List α}, y ∈ isortE lt l ↔ y ∈ l := by
  intro l
  induction l using snoc_ind with
  | h0 => exact Iff.rfl
  | h1 l x ih => rw [isortE_snoc, mem_insE, ih, List.mem_append, List.mem_singleton]; exact Or.comm
theorem ord_lt {s : Stk} {i n : Nat} (h : (ordI s)[i]? = some n) : n < s.ps.length := by
  have := List.mem_of_getElem? h
  unfold ordI at this
  simpa using mem_isortE.1 this
theorem tmb_st {s : Stk} (v : Val s) : ∀ n, n ≤ s.ps.length → TmB s (stAt s n)
  | 0, _ => tmb_begin v
  | n + 1, hn => by
    have hi : (ordI s).getD n 0 < s.ps.length := by
      have h1 : n < (ordI s).length := by rw [ord_len]; omega
      rw [getD_of (List.getElem?_eq_getElem h1)]
      exact ord_lt (List.getElem?_eq_getElem h1)
    have := v.prf _ (prOf_mem hi)
    exact tmb_after v this.2.1 this.1 (tmb_st v n (by omega))
end Go.Te
namespace Go.Te
open Go.Mw

theorem addAt_len (l : List Int) (i v : Int) : (addAt l i v).length = l.length := by unfold addAt; simp
theorem addAt_of {l : List Int} {i v x : Int} (h : l[i.toNat]? = some x) : addAt l i v = l.set i.toNat (x + v) := by unfold addAt; rw [getD_of h]
/-- Seals of a row, one by one, told how they stand. -/
def cntIn (s : Stk) (l : List (Int × Int)) (d : Int) (i : Nat) (acc : List Int) : Nat → List Int
  | 0 => acc
  | m + 1 => addAt (cntIn s l d i acc m) (stSeal s l i ((rowOf s i).fr + m) d) 1
def rowN (r : Sl) : Nat := (r.to - r.fr + 1).toNat
def cntRef (s : Stk) (l : List (Int × Int)) (d : Int) : Nat → List Int
  | 0 => [0, 0, 0, 0]
  | n + 1 => cntIn s l d n (cntRef s l d n) (rowN (rowOf s n))
def dueIn (s : Stk) (e : Int) (i : Nat) (acc : List Int) : Nat → List Int
  | 0 => acc
  | m + 1 => if isBrk s ((rowOf s i).fr + m) e = true then dueIn s e i acc m else addAt (dueIn s e i acc m) (rowOf s i).cl 1
def dueRef (s : Stk) (l : List (Int × Int)) (lo hi : Int) : Nat → List Int
  | 0 => List.replicate s.cs.length 0
  | n + 1 => if inB (endAt l n).1 lo hi = true then dueIn s (endAt l n).1 n (dueRef s l lo hi n) (rowN (rowOf s n)) else dueRef s l lo hi n
def cntRefR (s : Stk) (d : Int) : List Int × Int :=
  if (termsR s).2.2 = 0 then if inB d 0 131072 = false then ([], 2) else (cntRef s (termsR s).1 d s.rs.length, 0) else ([], (termsR s).2.2)
def dueRefR (s : Stk) (lo hi : Int) : List Int × Int :=
  if (termsR s).2.2 = 0 then if dueErr lo hi = true then ([], 2) else (dueRef s (termsR s).1 lo hi s.rs.length, 0) else ([], (termsR s).2.2)

theorem terms_zero {s : Stk} (h : (termsR s).2.2 = 0) : stockB s = true ∧ (termsR s).1 = stAt s s.ps.length ∧ firstE (rowErr s) s.rs.length = none ∧ firstE (brErr s) s.bs.length = none ∧ firstE (prErr s) s.ps.length = none := by
  unfold termsR at h ⊢
  split at h
  · simp at h
  · rename_i hsb
    rw [if_neg hsb]
    have hsb : stockB s = true := by simpa using hsb
    split at h
    · simp at h
    · rename_i h1
      rw [h1]
      simp only []
      split at h
      · rename_i i hi
        exact absurd h (firstE_get hi).2.1
      · rename_i h2
        rw [h2]
        simp only []
        split at h
        · rename_i i hi
          exact absurd h (firstE_get hi).2.1
        · rename_i h3
          rw [h3]
          refine ⟨hsb, rfl, ?_, ?_, ?_⟩ <;> first | trivial | rfl | assumption
end Go.Te
namespace Go.Te
/-- The ones among so many bits. -/
def popF : Nat → Nat → Nat
  | 0, _ => 0
  | k + 1, n => n % 2 + popF k (n / 2)
theorem popc_popF : ∀ (k n : Nat), n < 2 ^ k → popc n = popF k n
  | 0, n, h => by
    have : n = 0 := by simpa using h
    subst this; exact popc_zero
  | k + 1, n, h => by
    by_cases h0 : n = 0
    · subst h0
      rw [popF, ← popc_popF k 0 (by exact Nat.two_pow_pos k)]
      simp [popc_zero]
    · rw [popc_pos h0, popF, popc_popF k (n / 2) (by rw [Nat.pow_succ] at h; omega)]
theorem popF_split : ∀ (k m r q : Nat), r < 2 ^ k → popF (k + m) (r + 2 ^ k * q) = popF k r + popF m q
  | 0, m, r, q, h => by
    have : r = 0 := by simpa using h
    subst this; simp [popF]
  | k + 1, m, r, q, h => by
    rw [show k + 1 + m = (k + m) + 1 by omega, popF, popF]
    have e1 : (r + 2 ^ (k + 1) * q) % 2 = r % 2 := by rw [Nat.pow_succ, Nat.mul_comm (2 ^ k) 2, Nat.mul_assoc]; omega
    have e2 : (r + 2 ^ (k + 1) * q) / 2 = r / 2 + 2 ^ k * q := by rw [Nat.pow_succ, Nat.mul_comm (2 ^ k) 2, Nat.mul_assoc]; omega
    rw [e1, e2, popF_split k m (r / 2) q (by rw [Nat.pow_succ] at h; omega)]
    omega
/-- And, byte by byte. -/
theorem andB (x m : Nat) : x &&& m = (x % 256 &&& m % 256) + 256 * (x / 256 &&& m / 256) := by
  have h1 : (x &&& m) % 2 ^ 8 = (x % 2 ^ 8 &&& m % 2 ^ 8) := Nat.and_mod_two_pow
  have h2 : (x &&& m) / 2 ^ 8 = (x / 2 ^ 8 &&& m / 2 ^ 8) := Nat.and_div_two_pow
  have e : (2 : Nat) ^ 8 = 256 := by decide
  rw [e] at h1 h2
  have := Nat.mod_add_div (x &&& m) 256
  rw [h1, h2] at this
  exact this.symm
theorem and3 (x m : Nat) : x &&& m = (x % 256 &&& m % 256) + 256 * (x / 256 % 256 &&& m / 256 % 256) + 65536 * (x / 65536 &&& m / 65536) := by
  have e : (256 : Nat) * 256 = 65536 := rfl
  rw [andB x m, andB (x / 256) (m / 256), Nat.div_div_eq_div_mul, Nat.div_div_eq_div_mul, e]
  omega
def m0 : Nat := 6148914691236517205
def m1 : Nat := 3689348814741910323
def m2 : Nat := 1085102592571150095
def s1 (n : Nat) : Nat := (n / 2 &&& m0) + (n &&& m0)
def s2 (n : Nat) : Nat := (n / 4 &&& m1) + (n &&& m1)
def s3 (n : Nat) : Nat := (n / 16 + n) &&& m2
def t1 (r : Nat) : Nat := (r / 2 &&& 85) + (r &&& 85)
def t2 (r : Nat) : Nat := (r / 4 &&& 51) + (r &&& 51)
def t3 (r : Nat) : Nat := (r / 16 + r) &&& 15
theorem tail0 (r : Nat) (h : r < 16) : (r &&& m0 / 65536) = (r &&& 85) ∧ (r / 2 &&& m0 / 65536) = (r / 2 &&& 85) := by
  revert r; decide
theorem by1 : ∀ r, r < 256 → ∀ b, b < 2 → (r / 2 + 128 * b) &&& 85 = r / 2 &&& 85 := by decide +kernel
theorem by2 : ∀ r, r < 256 → ∀ b, b < 4 → (r / 4 + 64 * b) &&& 51 = r / 4 &&& 51 := by decide +kernel
theorem t1_le : ∀ r, r < 256 → t1 r ≤ 170 := by decide +kernel
theorem t1_le16 : ∀ r, r < 16 → t1 r ≤ 15 := by decide +kernel
theorem t2_le : ∀ r, r < 256 → t2 (t1 r) ≤ 68 ∧ t2 (t1 r) % 16 ≤ 4 := by decide +kernel
theorem t2_le16 : ∀ r, r < 16 → t2 (t1 r) ≤ 4 := by decide +kernel
theorem tail1 (r : Nat) (h : r < 16) : (r &&& m1 / 65536) = (r &&& 51) ∧ (r / 4 &&& m1 / 65536) = (r / 4 &&& 51) := by
  revert r; decide
theorem tail2 (r : Nat) (h : r < 32) : (r &&& m2 / 65536) = (r &&& 15) := by
  revert r; decide
theorem t3_pop : ∀ r, r < 256 → t3 (t2 (t1 r)) = popF 8 r := by decide +kernel
theorem t3_pop4 : ∀ r, r < 16 → t3 (t2 (t1 r)) = popF 4 r := by decide +kernel
theorem m0_b : m0 % 256 = 85 ∧ m0 / 256 % 256 = 85 := by decide
theorem m1_b : m1 % 256 = 51 ∧ m1 / 256 % 256 = 51 := by decide
theorem m2_b : m2 % 256 = 15 ∧ m2 / 256 % 256 = 15 := by decide
theorem s1_eq {a b c : Nat} (ha : a < 256) (hb : b < 256) (hc : c < 16) : s1 (a + 256 * b + 65536 * c) = t1 a + 256 * t1 b + 65536 * t1 c := by
  unfold s1 t1
  rw [and3 (_ / 2) m0, and3 (_) m0, m0_b.1, m0_b.2]
  have e1 : (a + 256 * b + 65536 * c) / 2 % 256 = a / 2 + 128 * (b % 2) := by omega
  have e2 : (a + 256 * b + 65536 * c) / 2 / 256 % 256 = b / 2 + 128 * (c % 2) := by omega
  have e3 : (a + 256 * b + 65536 * c) / 2 / 65536 = c / 2 := by omega
  have e4 : (a + 256 * b + 65536 * c) % 256 = a := by omega
  have e5 : (a + 256 * b + 65536 * c) / 256 % 256 = b := by omega
  have e6 : (a + 256 * b + 65536 * c) / 65536 = c := by omega
  rw [e1, e2, e3, e4, e5, e6, by1 a ha _ (by omega), by1 b hb _ (by omega), (tail0 c hc).1, (tail0 c hc).2]
  omega
theorem s2_eq {a b c : Nat} (ha : a < 256) (hb : b < 256) (hc : c < 16) : s2 (a + 256 * b + 65536 * c) = t2 a + 256 * t2 b + 65536 * t2 c := by
  unfold s2 t2
  rw [and3 (_ / 4) m1, and3 (_) m1, m1_b.1, m1_b.2]
  have e1 : (a + 256 * b + 65536 * c) / 4 % 256 = a / 4 + 64 * (b % 4) := by omega
  have e2 : (a + 256 * b + 65536 * c) / 4 / 256 % 256 = b / 4 + 64 * (c % 4) := by omega
  have e3 : (a + 256 * b + 65536 * c) / 4 / 65536 = c / 4 := by omega
  have e4 : (a + 256 * b + 65536 * c) % 256 = a := by omega
  have e5 : (a + 256 * b + 65536 * c) / 256 % 256 = b := by omega
  have e6 : (a + 256 * b + 65536 * c) / 65536 = c := by omega
  rw [e1, e2, e3, e4, e5, e6, by2 a ha _ (by omega), by2 b hb _ (by omega), (tail1 c hc).1, (tail1 c hc).2]
  omega
theorem and15 (x : Nat) : x &&& 15 = x % 16 := Nat.and_two_pow_sub_one_eq_mod x 4
theorem s3_eq {a b c : Nat} (ha : a ≤ 68 ∧ a % 16 ≤ 4) (hb : b ≤ 68 ∧ b % 16 ≤ 4) (hc : c ≤ 4) : s3 (a + 256 * b + 65536 * c) = t3 a + 256 * t3 b + 65536 * t3 c := by
  unfold s3 t3
  rw [and3 _ m2, m2_b.1, m2_b.2]
  have e1 : ((a + 256 * b + 65536 * c) / 16 + (a + 256 * b + 65536 * c)) % 256 = a / 16 + a + 16 * (b % 16) := by omega
  have e2 : ((a + 256 * b + 65536 * c) / 16 + (a + 256 * b + 65536 * c)) / 256 % 256 = b / 16 + b + 16 * c := by omega
  have e3 : ((a + 256 * b + 65536 * c) / 16 + (a + 256 * b + 65536 * c)) / 65536 = c := by omega
  have h1 : c / 16 = 0 := by omega
  rw [e1, e2, e3, tail2 c (by omega), h1, and15, and15, and15, and15, and15, and15, Nat.add_mul_mod_self_left, Nat.add_mul_mod_self_left, Nat.zero_add]
theorem tail_sum {p q r : Nat} (hp : p ≤ 15) (hq : q ≤ 15) (hr : r ≤ 15) : (let x := p + 256 * q + 65536 * r; let x := x + x / 256; let x := x + x / 65536; let x := x + x / 4294967296; x &&& 127) = p + q + r := by
  have e1 : (p + 256 * q + 65536 * r) / 256 = q + 256 * r := by omega
  have e2 : (p + 256 * q + 65536 * r + (q + 256 * r)) / 65536 = r := by omega
  have e3 : (p + 256 * q + 65536 * r + (q + 256 * r) + r) / 4294967296 = 0 := by omega
  have and127 : ∀ x : Nat, x &&& 127 = x % 128 := fun x => Nat.and_two_pow_sub_one_eq_mod x 7
  simp only [e1, e2, e3, and127]
  omega
theorem pop_all {n : Nat} (h : n < 1048576) : (let x := s3 (s2 (s1 n)); let x := x + x / 256; let x := x + x / 65536; let x := x + x / 4294967296; x &&& 127) = popc n ∧ s1 n < 1048576 * 2 ∧ s2 (s1 n) < 1048576 * 2 ∧ s3 (s2 (s1 n)) < 1048576 := by
  have ha : n % 256 < 256 := by omega
  have hb : n / 256 % 256 < 256 := by omega
  have hc : n / 65536 < 16 := by omega
  have hn : n = n % 256 + 256 * (n / 256 % 256) + 65536 * (n / 65536) := by omega
  generalize n % 256 = a at *
  generalize n / 256 % 256 = b at *
  generalize n / 65536 = c at *
  subst hn
  have g1 := t1_le a ha
  have g2 := t1_le b hb
  have g3 := t1_le16 c hc
  have g4 := t2_le a ha
  have g5 := t2_le b hb
  have g6 := t2_le16 c hc
  rw [s1_eq ha hb hc, s2_eq (by omega) (by omega) (by omega), s3_eq g4 g5 g6]
  have p1 := t3_pop a ha
  have p2 := t3_pop b hb
  have p3 := t3_pop4 c hc
  have b1 : ∀ r, t3 r ≤ 15 := fun r => by unfold t3; rw [and15]; omega
  have q1 := b1 (t2 (t1 a))
  have q2 := b1 (t2 (t1 b))
  have q3 := b1 (t2 (t1 c))
  have hp : popc (a + 256 * b + 65536 * c) = popF 8 a + popF 8 b + popF 4 c := by
    rw [popc_popF 20 _ (by omega)]
    have e1 := popF_split 8 12 a (b + 256 * c) ha
    have e2 := popF_split 8 4 b c hb
    have w : (2 : Nat) ^ 8 = 256 := rfl
    rw [w] at e1 e2
    have e3 : a + 256 * b + 65536 * c = a + 256 * (b + 256 * c) := by omega
    rw [e3, e1, e2]; omega
  rw [hp, ← p1, ← p2, ← p3]
  refine ⟨?_, by omega, by omega, by omega⟩
  exact tail_sum q1 q2 q3
end Go.Te
namespace Go.Te
open Go.Mw

/-- A stock whose rows and broken seals are right. -/
structure Good (s : Stk) : Prop where
  v : Val s
  nd : (s.bs.map (·.no)).Nodup
  one : ∀ i j, i < j → j < s.rs.length → overl (rowOf s i) (rowOf s j) = false
  brk : ∀ b ∈ s.bs, ∃ j, rowI s b.no = some j ∧ (rowOf s j).day ≤ b.day
theorem rowErr_zero {s : Stk} {j : Nat} : rowErr s j = 0 ↔ ∀ o ∈ s.rs.take j, overl o (rowOf s j) = false := by
  unfold rowErr
  constructor
  · intro h o ho
    split at h
    · simp at h
    · rename_i hn
      cases hv : overl o (rowOf s j) with
      | false => rfl
      | true => exact absurd (List.any_eq_true.2 ⟨o, ho, hv⟩) hn
  · intro h
    rw [if_neg]
    intro ha
    obtain ⟨o, ho, hv⟩ := List.any_eq_true.1 ha
    rw [h o ho] at hv; cases hv
theorem mem_take_iff {s : Stk} {j : Nat} {o : Sl} (hj : j ≤ s.rs.length) : o ∈ s.rs.take j ↔ ∃ i, i < j ∧ rowOf s i = o := by
  constructor
  · intro h
    obtain ⟨i, hi⟩ := List.getElem?_of_mem h
    rw [List.getElem?_take] at hi
    split at hi
    · exact ⟨i, by assumption, rowOf_of hi⟩
    · cases hi
  · rintro ⟨i, hi, rfl⟩
    refine List.mem_of_getElem? (i := i) ?_
    rw [List.getElem?_take, if_pos hi]
    exact rowOf_get (by omega)
theorem good_of {s : Stk} (h : (termsR s).2.2 = 0) : Good s := by
  obtain ⟨h1, _, h3, h4, _⟩ := terms_zero h
  have hR := firstE_none.1 h3
  have hE := firstE_none.1 h4
  refine ⟨stock_val h1, ?_, fun i j hij hj => rowErr_zero.1 (hR j hj) _ ((mem_take_iff (by omega)).2 ⟨i, hij, rfl⟩), fun b hb => ?_⟩
  · unfold List.Nodup
    rw [List.pairwise_iff_getElem]
    intro i j hi hj hij e
    simp only [List.length_map] at hi hj
    have hbj : brOf s j = s.bs[j] := by simp [brOf, List.getD, List.getElem?_eq_getElem hj]
    have := hE j hj
    unfold brErr at this
    rw [hbj] at this
    split at this
    · exact absurd this (by decide)
    · rw [if_pos] at this
      · exact absurd this (by decide)
      · refine List.any_eq_true.2 ⟨s.bs[i], ?_, ?_⟩
        · refine List.mem_of_getElem? (i := i) ?_
          rw [List.getElem?_take, if_pos hij, List.getElem?_eq_getElem hi]
        · simpa using e
  · obtain ⟨k, hk⟩ := List.getElem?_of_mem hb
    have hkl : k < s.bs.length := (List.getElem?_eq_some_iff.1 hk).1
    have := hE k hkl
    unfold brErr at this
    rw [brOf_of hk] at this
    cases hr : rowI s b.no with
    | none => rw [hr] at this; have this : (4 : Int) = 0 := this; exact absurd this (by decide)
    | some j =>
      rw [hr] at this
      refine ⟨j, rfl, ?_⟩
      simp only at this
      split at this
      · exact absurd this (by decide)
      · split at this
        · exact absurd this (by decide)
        · omega

theorem rowI_some {s : Stk} {x : Int} {i : Nat} (hi : i < s.rs.length) (h1 : (rowOf s i).fr ≤ x ∧ x ≤ (rowOf s i).to) (h2 : ∀ j, j < i → ¬ ((rowOf s j).fr ≤ x ∧ x ≤ (rowOf s j).to)) : rowI s x = some i := by
  unfold rowI
  rw [List.findIdx?_eq_some_iff_getElem]
  refine ⟨hi, ?_, fun j hj => ?_⟩
  · rw [← rowOf_of (List.getElem?_eq_getElem hi)]; exact inB_iff.2 h1
  · have hjl : j < s.rs.length := by omega
    rw [← rowOf_of (s := s) (List.getElem?_eq_getElem hjl), Bool.not_eq_true, ← Bool.not_eq_true, inB_iff]
    exact h2 j hj
theorem Good.at {s : Stk} (g : Good s) {x : Int} {i : Nat} (hi : i < s.rs.length) (h1 : (rowOf s i).fr ≤ x ∧ x ≤ (rowOf s i).to) : rowI s x = some i :=
  rowI_some hi h1 fun j hj h2 => by
    have := g.one j i hj hi
    unfold overl at this
    simp only [Bool.and_eq_false_iff, decide_eq_false_iff_not] at this
    omega
theorem Good.late {s : Stk} (g : Good s) {b : Br} (hb : b ∈ s.bs) {i : Nat} (hi : i < s.rs.length) (h1 : (rowOf s i).fr ≤ b.no ∧ b.no ≤ (rowOf s i).to) : (rowOf s i).day ≤ b.day := by
  obtain ⟨j, hj, hd⟩ := g.brk b hb
  rw [g.at hi h1] at hj
  cases hj; exact hd

/-- Is a seal of a list broken on a day? -/
def isBrkL (bs : List Br) (x d : Int) : Bool := match bs.find? fun b => b.no == x with
  | some b => decide (b.day ≤ d)
  | none => false
theorem isBrk_L (s : Stk) (x d : Int) : isBrk s x d = isBrkL s.bs x d := rfl
theorem isBrkL_any {bs : List Br} (hn : (bs.map (·.no)).Nodup) (x d : Int) : isBrkL bs x d = bs.any fun b => b.no == x && decide (b.day ≤ d) := by
  induction bs with
  | nil => rfl
  | cons b bs ih =>
    simp only [List.map_cons, List.nodup_cons] at hn
    unfold isBrkL at ih ⊢
    rw [List.any_cons, List.find?_cons]
    by_cases hb : (b.no == x) = true
    · rw [hb]
      simp only [Bool.true_and]
      have : (bs.any fun b => b.no == x && decide (b.day ≤ d)) = false := by
        rw [List.any_eq_false]
        intro c hc h
        simp only [Bool.and_eq_true, beq_iff_eq] at h
        have e : b.no = x := by simpa using hb
        exact hn.1 (List.mem_map.2 ⟨c, hc, by omega⟩)
      rw [this, Bool.or_false]
    · have hb : (b.no == x) = false := by simpa using hb
      rw [hb]
      simp only [Bool.false_and, Bool.false_or]
      exact ih hn.2
theorem cnt_one {bs : List Br} (hn : (bs.map (·.no)).Nodup) (x : Int) (Q : Br → Bool) : (bs.countP fun b => b.no == x && Q b) = if (bs.any fun b => b.no == x && Q b) = true then 1 else 0 := by
  induction bs with
  | nil => rfl
  | cons b bs ih =>
    simp only [List.map_cons, List.nodup_cons] at hn
    rw [List.countP_cons, List.any_cons, ih hn.2]
    by_cases hb : (b.no == x && Q b) = true
    · have : (bs.any fun b => b.no == x && Q b) = false := by
        rw [List.any_eq_false]
        intro c hc h
        simp only [Bool.and_eq_true, beq_iff_eq] at h hb
        exact hn.1 (List.mem_map.2 ⟨c, hc, by omega⟩)
      rw [this, hb]; rfl
    · have hb : (b.no == x && Q b) = false := by simpa using hb
      rw [hb]; simp
theorem countP_or {α : Type} {l : List α} {p q r : α → Bool} (h : ∀ a ∈ l, p a = (q a || r a)) (hd : ∀ a ∈ l, ¬ (q a = true ∧ r a = true)) : l.countP p = l.countP q + l.countP r := by
  induction l with
  | nil => rfl
  | cons a l ih =>
    have ha := h a List.mem_cons_self
    have hda := hd a List.mem_cons_self
    rw [List.countP_cons, List.countP_cons, List.countP_cons, ih (fun a h' => h a (List.mem_cons_of_mem _ h')) fun a h' => hd a (List.mem_cons_of_mem _ h'), ha]
    cases hq : q a <;> cases hr : r a <;> simp_all <;> omega

/-- The broken ones among the first seals of a row. -/
def nbk (s : Stk) (i : Nat) (d : Int) (m : Nat) : Nat := s.bs.countP fun b => inB b.no (rowOf s i).fr ((rowOf s i).fr + m - 1) && decide (b.day ≤ d)
theorem nbk_zero (s : Stk) (i : Nat) (d : Int) : nbk s i d 0 = 0 := by
  unfold nbk
  rw [List.countP_eq_zero]
  intro b _ h
  simp only [Bool.and_eq_true, inB_iff] at h
  omega
theorem nbk_succ {s : Stk} (hn : (s.bs.map (·.no)).Nodup) (i : Nat) (d : Int) (m : Nat) : nbk s i d (m + 1) = nbk s i d m + if isBrk s ((rowOf s i).fr + m) d = true then 1 else 0 := by
  rw [isBrk_L, isBrkL_any hn, ← cnt_one hn _ fun b => decide (b.day ≤ d)]
  unfold nbk
  refine countP_or (fun b _ => ?_) fun b _ h => ?_
  · rw [← Bool.and_or_distrib_right]
    congr 1
    rw [Bool.eq_iff_iff, inB_iff, Bool.or_eq_true, inB_iff, beq_iff_eq]
    omega
  · simp only [Bool.and_eq_true, inB_iff, beq_iff_eq] at h
    omega
theorem nbk_all {s : Stk} (v : Val s) {i : Nat} (hi : i < s.rs.length) (d : Int) : (nbk s i d (rowN (rowOf s i)) : Int) = brkOf s (rowOf s i) d := by
  have := v.row _ (rowOf_mem hi)
  unfold nbk brkOf rowN
  rw [show (rowOf s i).fr + (((rowOf s i).to - (rowOf s i).fr + 1).toNat : Int) - 1 = (rowOf s i).to by omega]
theorem nbk_early {s : Stk} (g : Good s) {i : Nat} (hi : i < s.rs.length) {d : Int} (hd : d < (rowOf s i).day) {m : Nat} (hm : m ≤ rowN (rowOf s i)) : nbk s i d m = 0 := by
  have hr := g.v.row _ (rowOf_mem hi)
  unfold nbk
  rw [List.countP_eq_zero]
  intro b hb h
  simp only [Bool.and_eq_true, inB_iff, decide_eq_true_eq] at h
  have := g.late hb hi (by unfold rowN at hm; omega)
  omega
theorem not_brk {s : Stk} (g : Good s) {i : Nat} (hi : i < s.rs.length) {d : Int} (hd : d < (rowOf s i).day) {x : Int} (hx : (rowOf s i).fr ≤ x ∧ x ≤ (rowOf s i).to) : isBrk s x d = false := by
  rw [isBrk_L, isBrkL_any g.nd, List.any_eq_false]
  intro b hb h
  simp only [Bool.and_eq_true, beq_iff_eq, decide_eq_true_eq] at h
  have := g.late hb hi (by omega)
  omega
theorem stOf_three (r : Sl) (e d : Int) : stOf r e d = 0 ∨ stOf r e d = 1 ∨ stOf r e d = 2 := by
  unfold stOf
  split
  · exact .inl rfl
  · split
    · exact .inr (.inl rfl)
    · exact .inr (.inr rfl)
end Go.Te
namespace Go.Te
open Go.Mw

def sumR : Nat → (Nat → Int) → Int
  | 0, _ => 0
  | n + 1, f => sumR n f + f n
theorem sumR_congr {f g : Nat → Int} : ∀ {n : Nat}, (∀ i, i < n → f i = g i) → sumR n f = sumR n g
  | 0, _ => rfl
  | n + 1, h => by rw [sumR, sumR, sumR_congr fun i hi => h i (by omega), h n (by omega)]
theorem sumR_add (f g : Nat → Int) : ∀ n : Nat, sumR n (fun i => f i + g i) = sumR n f + sumR n g
  | 0 => rfl
  | n + 1 => by rw [sumR, sumR, sumR, sumR_add f g n]; omega
theorem sumR_sub (f g : Nat → Int) : ∀ n : Nat, sumR n (fun i => f i - g i) = sumR n f - sumR n g
  | 0 => rfl
  | n + 1 => by rw [sumR, sumR, sumR, sumR_sub f g n]; omega
theorem sumR_zero {f : Nat → Int} : ∀ {n : Nat}, (∀ i, i < n → f i = 0) → sumR n f = 0
  | 0, _ => rfl
  | n + 1, h => by rw [sumR, sumR_zero fun i hi => h i (by omega), h n (by omega)]; rfl
theorem sumR_nonneg {f : Nat → Int} : ∀ {n : Nat}, (∀ i, i < n → 0 ≤ f i) → 0 ≤ sumR n f
  | 0, _ => by simp [sumR]
  | n + 1, h => by
    have := sumR_nonneg (f := f) (n := n) fun i hi => h i (by omega)
    have := h n (by omega)
    rw [sumR]; omega
theorem sumR_one {f : Nat → Int} {j : Nat} {v : Int} (hj : f j = v) (h0 : ∀ i, i ≠ j → f i = 0) : ∀ {n : Nat}, j < n → sumR n f = v
  | 0, h => by omega
  | n + 1, h => by
    rw [sumR]
    by_cases e : j = n
    · subst e
      rw [sumR_zero fun i hi => h0 i (by omega), hj]; omega
    · rw [sumR_one hj h0 (by omega), h0 n (by omega)]; omega

def szR (s : Stk) (i : Nat) : Int := (rowOf s i).to - (rowOf s i).fr + 1
def bkR (s : Stk) (d : Int) (i : Nat) : Int := brkOf s (rowOf s i) d
def stR (s : Stk) (l : List (Int × Int)) (d : Int) (j : Int) (i : Nat) : Int := if stOf (rowOf s i) (endAt l i).1 d = j then szR s i - bkR s d i else 0
theorem cnt_sum (s : Stk) (l : List (Int × Int)) (d : Int) : ∀ n, cntTo s l d n = [sumR n (stR s l d 0), sumR n (stR s l d 1), sumR n (stR s l d 2), sumR n (bkR s d)]
  | 0 => rfl
  | n + 1 => by
    rw [cntTo, cnt_sum s l d n, sumR, sumR, sumR, sumR]
    unfold stR bkR szR
    rcases stOf_three (rowOf s n) (endAt l n).1 d with h | h | h <;> rw [h] <;> simp [addAt]
theorem sum_addAt {l : List Int} {i v : Int} (h : i.toNat < l.length) : (addAt l i v).sum = l.sum + v := by
  rw [addAt_of (List.getElem?_eq_getElem h)]
  generalize i.toNat = j at h
  induction l generalizing j with
  | nil => simp at h
  | cons a l ih =>
    cases j with
    | zero => simp; omega
    | succ j =>
      simp only [List.length_cons, Nat.add_lt_add_iff_right] at h
      simp only [List.set_cons_succ, List.sum_cons, List.getElem_cons_succ]
      rw [ih j h]; omega
theorem dueTo_len' (s : Stk) (l : List (Int × Int)) (lo hi : Int) : ∀ k, (dueTo s l lo hi k).length = s.cs.length
  | 0 => by simp [dueTo]
  | k + 1 => by
    rw [dueTo]
    split
    · rw [addAt_len, dueTo_len' s l lo hi k]
    · exact dueTo_len' s l lo hi k
def duR (s : Stk) (l : List (Int × Int)) (lo hi : Int) (i : Nat) : Int := if inB (endAt l i).1 lo hi = true then szR s i - bkR s (endAt l i).1 i else 0
theorem rep_sum (n : Nat) : (List.replicate n (0 : Int)).sum = 0 := by
  induction n with
  | zero => rfl
  | succ n ih => rw [List.replicate_succ, List.sum_cons, ih]; rfl
theorem due_sum {s : Stk} (v : Val s) (l : List (Int × Int)) (lo hi : Int) : ∀ n, n ≤ s.rs.length → (dueTo s l lo hi n).sum = sumR n (duR s l lo hi)
  | 0, _ => rep_sum _
  | n + 1, h => by
    have hr := v.row _ (rowOf_mem (s := s) (i := n) (by omega))
    have hl := dueTo_len' s l lo hi n
    rw [dueTo, sumR]
    unfold duR szR bkR
    split
    · rw [sum_addAt (by omega), due_sum v l lo hi n (by omega)]; rfl
    · rw [due_sum v l lo hi n (by omega), Int.add_zero]; rfl

theorem nbk_le {s : Stk} (hn : (s.bs.map (·.no)).Nodup) (i : Nat) (d : Int) : ∀ m, nbk s i d m ≤ m
  | 0 => by rw [nbk_zero]; exact Nat.le_refl _
  | m + 1 => by
    have := nbk_le hn i d m
    rw [nbk_succ hn]
    split <;> omega
theorem bkR_bnd {s : Stk} (g : Good s) (d : Int) {i : Nat} (hi : i < s.rs.length) : 0 ≤ bkR s d i ∧ bkR s d i ≤ szR s i := by
  have hr := g.v.row _ (rowOf_mem hi)
  have h1 := nbk_all g.v hi d
  have h2 := nbk_le g.nd i d (rowN (rowOf s i))
  have h3 : (rowN (rowOf s i) : Int) = szR s i := by unfold rowN szR; omega
  unfold bkR
  omega
theorem bkR_early {s : Stk} (g : Good s) {d : Int} {i : Nat} (hi : i < s.rs.length) (hd : d < (rowOf s i).day) : bkR s d i = 0 := by
  have h1 := nbk_all g.v hi d
  have h2 := nbk_early g hi hd (Nat.le_refl _)
  unfold bkR; omega
/-- The ones that are broken on one day. -/
def onR (s : Stk) (d : Int) (i : Nat) : Int := (s.bs.countP fun b => inB b.no (rowOf s i).fr (rowOf s i).to && decide (b.day = d) : Nat)
theorem bkR_succ (s : Stk) (d : Int) (i : Nat) : bkR s (d + 1) i = bkR s d i + onR s (d + 1) i := by
  unfold bkR brkOf onR
  rw [← Int.natCast_add]
  congr 1
  refine countP_or (fun b _ => ?_) fun b _ h => ?_
  · rw [← Bool.and_or_distrib_left]
    congr 1
    rw [Bool.eq_iff_iff, Bool.or_eq_true]
    simp only [decide_eq_true_eq]
    omega
  · simp only [Bool.and_eq_true, decide_eq_true_eq] at h
    omega
theorem end_late {s : Stk} (v : Val s) : ∀ n, n ≤ s.ps.length → ∀ i, i < s.rs.length → (rowOf s i).day < (endAt (stAt s n) i).1
  | 0, _, i, hi => by
    have hr := v.row _ (rowOf_mem hi)
    have hc := v.cls _ (cls_mem hr.2.1.1 hr.2.1.2)
    rw [stAt, endAt_of (t := ((rowOf s i).day + (clsOf s (rowOf s i).cl).term, 0)) (by unfold begins; rw [List.getElem?_map, rowOf_get hi]; rfl)]
    simp only; omega
  | n + 1, hn, i, hi => by
    have ih := end_late v n (by omega) i hi
    have hl := (tmb_st v n (by omega)).len
    have hil : i < (stAt s n).length := by omega
    have h1 : (ordI s).getD n 0 < s.ps.length := by
      have h1 : n < (ordI s).length := by rw [ord_len]; omega
      rw [getD_of (List.getElem?_eq_getElem h1)]
      exact ord_lt (List.getElem?_eq_getElem h1)
    have hp := v.prf _ (prOf_mem h1)
    have hc := v.cls _ (cls_mem hp.1.1 hp.1.2)
    have hg := List.getElem?_eq_getElem hil
    rw [endAt_of hg] at ih
    rw [stAt, endAt_of (aftT_get hl hg)]
    unfold step1
    split
    · rename_i h
      have h2 := h.2
      unfold inForce at h2
      simp only [Bool.and_eq_true, decide_eq_true_eq] at h2
      split
      · simp only; omega
      · split
        · simp only; omega
        · exact ih
    · exact ih
theorem terms_late {s : Stk} (h : (termsR s).2.2 = 0) {i : Nat} (hi : i < s.rs.length) : (rowOf s i).day < (endAt (termsR s).1 i).1 := by
  rw [(terms_zero h).2.1]
  exact end_late (good_of h).v _ (Nat.le_refl _) i hi

/-- Each broken seal is of one row. -/
theorem dbl {s : Stk} (g : Good s) (Q : Br → Bool) : ∀ bs' : List Br, (∀ b ∈ bs', b ∈ s.bs) → (bs'.countP Q : Int) = sumR s.rs.length (fun i => ((bs'.countP fun b => inB b.no (rowOf s i).fr (rowOf s i).to && Q b : Nat) : Int))
  | [], _ => by
    rw [sumR_zero]
    · rfl
    · intro i _; rfl
  | b :: bs', h => by
    have ih := dbl g Q bs' fun c hc => h c (List.mem_cons_of_mem _ hc)
    obtain ⟨j, hj, _⟩ := g.brk b (h b List.mem_cons_self)
    obtain ⟨hjl, hj1⟩ := rowI_lt hj
    have e : ∀ i, (((b :: bs').countP fun b => inB b.no (rowOf s i).fr (rowOf s i).to && Q b : Nat) : Int) = ((bs'.countP fun b => inB b.no (rowOf s i).fr (rowOf s i).to && Q b : Nat) : Int) + (if (inB b.no (rowOf s i).fr (rowOf s i).to && Q b) = true then 1 else 0) := fun i => by
      rw [List.countP_cons]; split <;> simp
    rw [sumR_congr fun i _ => e i, sumR_add, ← ih, List.countP_cons]
    have h2 : sumR s.rs.length (fun i => if (inB b.no (rowOf s i).fr (rowOf s i).to && Q b) = true then (1 : Int) else 0) = if Q b = true then 1 else 0 := by
      rw [sumR_congr (g := fun i => if i = j then (if Q b = true then (1 : Int) else 0) else 0) fun i hi => ?_]
      · exact sumR_one (j := j) (if_pos rfl) (fun i hi => if_neg hi) hjl
      · by_cases e : i = j
        · subst e
          rw [if_pos rfl, inB_iff.2 hj1, Bool.true_and]
        · rw [if_neg e, if_neg]
          intro h3
          simp only [Bool.and_eq_true, inB_iff] at h3
          rw [g.at hi h3.1] at hj
          cases hj; exact e rfl
    rw [h2]
    split <;> simp
/-- Is a broken seal told on this day, before its end? -/
def brq (s : Stk) (d : Int) (b : Br) : Bool := decide (b.day = d) && decide (d ≤ (endR s b.no).1)
def opq (d : Int) (b : Br) : Bool := decide (b.day = d)
def putR (s : Stk) (d : Int) (i : Nat) : Int := if (rowOf s i).day = d then szR s i else 0
theorem endR_at {s : Stk} (h : (termsR s).2.2 = 0) {x : Int} {i : Nat} (hi : rowI s x = some i) : endR s x = ((endAt (termsR s).1 i).1, (endAt (termsR s).1 i).2, 0) := by
  unfold endR; rw [if_pos h, hi]
theorem brq_sum {s : Stk} (h : (termsR s).2.2 = 0) (d : Int) : (s.bs.countP (brq s d) : Int) = sumR s.rs.length (fun i => if d ≤ (endAt (termsR s).1 i).1 then onR s d i else 0) := by
  have g := good_of h
  rw [dbl g (brq s d) s.bs fun _ h => h]
  refine sumR_congr fun i hi => ?_
  have e : ∀ b : Br, inB b.no (rowOf s i).fr (rowOf s i).to = true → (endR s b.no).1 = (endAt (termsR s).1 i).1 := fun b hb => by
    rw [endR_at h (g.at hi (inB_iff.1 hb))]
  split
  · rename_i hd
    unfold onR
    congr 1
    refine List.countP_congr fun b _ => ?_
    cases hb : inB b.no (rowOf s i).fr (rowOf s i).to with
    | false => simp
    | true => unfold brq; rw [e b hb]; simp [hd]
  · rename_i hd
    have : (s.bs.countP fun b => inB b.no (rowOf s i).fr (rowOf s i).to && brq s d b) = 0 := by
      rw [List.countP_eq_zero]
      intro b _ hb
      simp only [Bool.and_eq_true] at hb
      have h2 := hb.2
      unfold brq at h2
      rw [e b hb.1] at h2
      simp only [Bool.and_eq_true, decide_eq_true_eq] at h2
      exact hd h2.2
    rw [this]; rfl
theorem opq_sum {s : Stk} (g : Good s) (d : Int) : (s.bs.countP (opq d) : Int) = sumR s.rs.length (onR s d) := dbl g (opq d) s.bs fun _ h => h

/-- A stock is in balance from one day to the next. -/
theorem balance {s : Stk} (h : (termsR s).2.2 = 0) (d : Int) :
    let n := s.rs.length; let l := (termsR s).1
    sumR n (stR s l (d + 1) 1) = sumR n (stR s l d 1) + sumR n (putR s (d + 1)) - (s.bs.countP (brq s (d + 1)) : Int) - sumR n (duR s l (d + 1) (d + 1)) ∧
    sumR n (stR s l (d + 1) 0) = sumR n (stR s l d 0) - sumR n (putR s (d + 1)) ∧
    sumR n (bkR s (d + 1)) = sumR n (bkR s d) + (s.bs.countP (opq (d + 1)) : Int) := by
  have g := good_of h
  simp only
  rw [brq_sum h, opq_sum g]
  refine ⟨?_, ?_, ?_⟩
  · rw [← sumR_add, ← sumR_sub, ← sumR_sub]
    refine sumR_congr fun i hi => ?_
    have h1 := terms_late h hi
    have h2 := bkR_succ s d i
    have h3 := fun hd => bkR_early g (d := d) hi hd
    have h4 := fun hd => bkR_early g (d := d + 1) hi hd
    unfold stR putR duR stOf
    rw [inB]
    simp only [Bool.and_eq_true, decide_eq_true_eq]
    by_cases a1 : d + 1 < (rowOf s i).day
    · have := h3 (by omega)
      have := h4 a1
      rw [if_pos a1, if_pos (by omega : d < (rowOf s i).day), if_neg (by decide), if_neg (by decide), if_neg (by omega), if_pos (by omega : d + 1 ≤ _), if_neg (by omega)]
      omega
    · rw [if_neg a1]
      by_cases a2 : d < (rowOf s i).day
      · have := h3 a2
        rw [if_pos a2, if_neg (by decide : ¬ (0 : Int) = 1), if_pos (by omega : d + 1 < (endAt (termsR s).1 i).1), if_pos rfl, if_pos (by omega), if_pos (by omega : d + 1 ≤ _), if_neg (by omega)]
        omega
      · rw [if_neg a2, if_neg (by omega : ¬ (rowOf s i).day = d + 1)]
        by_cases a3 : d + 1 < (endAt (termsR s).1 i).1
        · rw [if_pos a3, if_pos rfl, if_pos (by omega : d < _), if_pos rfl, if_pos (by omega : d + 1 ≤ _), if_neg (by omega)]
          omega
        · rw [if_neg a3, if_neg (by decide : ¬ (2 : Int) = 1)]
          by_cases a4 : d < (endAt (termsR s).1 i).1
          · have e : (endAt (termsR s).1 i).1 = d + 1 := by omega
            rw [if_pos a4, if_pos rfl, if_pos (by omega : d + 1 ≤ _), if_pos (by omega), e]
            omega
          · rw [if_neg a4, if_neg (by decide : ¬ (2 : Int) = 1), if_neg (by omega : ¬ d + 1 ≤ _), if_neg (by omega)]
            omega
  · rw [← sumR_sub]
    refine sumR_congr fun i hi => ?_
    have h1 := terms_late h hi
    have h3 := fun hd => bkR_early g (d := d) hi hd
    have h4 := fun hd => bkR_early g (d := d + 1) hi hd
    unfold stR putR stOf
    by_cases a1 : d + 1 < (rowOf s i).day
    · have := h3 (by omega)
      have := h4 a1
      rw [if_pos a1, if_pos rfl, if_pos (by omega : d < (rowOf s i).day), if_pos rfl, if_neg (by omega)]
      omega
    · rw [if_neg a1]
      have z : ∀ e : Int, ¬ (if d + 1 < e then (1 : Int) else 2) = 0 := fun e => by split <;> decide
      have z2 : ∀ e : Int, ¬ (if d < e then (1 : Int) else 2) = 0 := fun e => by split <;> decide
      rw [if_neg (z _)]
      by_cases a2 : d < (rowOf s i).day
      · have := h3 a2
        rw [if_pos a2, if_pos rfl, if_pos (by omega)]
        omega
      · rw [if_neg a2, if_neg (z2 _), if_neg (by omega)]
        omega
  · rw [← sumR_add]
    exact sumR_congr fun i _ => bkR_succ s d i
/-- All that stand somehow are all that there are. -/
theorem all_stand (s : Stk) (l : List (Int × Int)) (d : Int) (n : Nat) : sumR n (stR s l d 0) + sumR n (stR s l d 1) + sumR n (stR s l d 2) + sumR n (bkR s d) = sumR n (szR s) := by
  rw [← sumR_add, ← sumR_add, ← sumR_add]
  refine sumR_congr fun i _ => ?_
  unfold stR
  rcases stOf_three (rowOf s i) (endAt l i).1 d with h | h | h <;> rw [h] <;> simp
theorem stR_bnd {s : Stk} (g : Good s) (l : List (Int × Int)) (d j : Int) {i : Nat} (hi : i < s.rs.length) : 0 ≤ stR s l d j i ∧ stR s l d j i ≤ szR s i := by
  have := bkR_bnd g d hi
  unfold stR
  split <;> omega
end Go.Te
namespace Go.Te
open Go.Mw

section
variable {α β : Type}
theorem scanE_map (f : α → β) (lt : β → β → Bool) (x : α) (l : List α) : ∀ n, scanE lt (f x) (l.map f) n = scanE (fun a b => lt (f a) (f b)) x l n
  | 0 => rfl
  | n + 1 => by
    rw [scanE, scanE, List.getElem?_map]
    cases l[n]? with
    | none => rfl
    | some y =>
      simp only [Option.map_some]
      rw [scanE_map f lt x l n]
theorem insE_map (f : α → β) (lt : β → β → Bool) (x : α) (l : List α) : insE lt (f x) (l.map f) = (insE (fun a b => lt (f a) (f b)) x l).map f := by
  unfold insE
  rw [List.length_map, scanE_map]
  simp
theorem isortE_map (f : α → β) (lt : β → β → Bool) : ∀ l : List α, isortE lt (l.map f) = (isortE (fun a b => lt (f a) (f b)) l).map f := by
  intro l
  induction l using snoc_ind with
  | h0 => rfl
  | h1 l x ih => rw [List.map_append, List.map_cons, List.map_nil, isortE_snoc, isortE_snoc, ih, insE_map]
theorem insE_perm (lt : α → α → Bool) (x : α) (l : List α) : (insE lt x l).Perm (x :: l) := by
  unfold insE
  have h := List.take_append_drop (scanE lt x l l.length) l
  refine ((List.perm_append_comm (l₁ := l.take (scanE lt x l l.length)) (l₂ := [x])).append_right _).trans ?_
  rw [List.append_assoc, h]
  exact List.Perm.refl _
theorem isortE_perm (lt : α → α → Bool) : ∀ l : List α, (isortE lt l).Perm l := by
  intro l
  induction l using snoc_ind with
  | h0 => exact List.Perm.refl _
  | h1 l x ih =>
    rw [isortE_snoc]
    exact (insE_perm lt x _).trans ((List.Perm.cons x ih).trans (List.perm_append_comm (l₁ := [x]) (l₂ := l)))
end
def dayLt (p q : Pf) : Bool := decide (p.day < q.day)
theorem dayLt_weak : Weak dayLt := by
  constructor <;> (intros; simp_all [dayLt]) <;> omega
def ordP (s : Stk) : List Pf := (ordI s).map (prOf s)
theorem map_prOf (s : Stk) : (List.range s.ps.length).map (prOf s) = s.ps := by
  apply List.ext_getElem?
  intro i
  rw [List.getElem?_map]
  by_cases h : i < s.ps.length
  · rw [List.getElem?_range h, prOf_get h]; rfl
  · rw [List.getElem?_eq_none (by simpa using h), List.getElem?_eq_none (by omega)]; rfl
theorem ordP_eq (s : Stk) : ordP s = isortE dayLt s.ps := by
  unfold ordP ordI
  have h := isortE_map (prOf s) dayLt (List.range s.ps.length)
  rw [map_prOf] at h
  exact h.symm
theorem ordP_perm (s : Stk) : (ordP s).Perm s.ps := by rw [ordP_eq]; exact isortE_perm _ _
theorem ordP_len (s : Stk) : (ordP s).length = s.ps.length := (ordP_perm s).length_eq
theorem ordP_get {s : Stk} {n : Nat} (h : n < s.ps.length) : (ordP s)[n]? = some (prOf s ((ordI s).getD n 0)) := by
  unfold ordP
  have h1 : n < (ordI s).length := by rw [ord_len]; omega
  rw [List.getElem?_map, List.getElem?_eq_getElem h1, getD_of (List.getElem?_eq_getElem h1)]; rfl

/-- A row's term after some proofs. -/
def rowT (s : Stk) (r : Sl) (P : List Pf) : Int × Int := P.foldl (fun t p => step1 s p r t) (r.day + (clsOf s r.cl).term, 0)
theorem rowT_snoc (s : Stk) (r : Sl) (P : List Pf) (p : Pf) : rowT s r (P ++ [p]) = step1 s p r (rowT s r P) := by unfold rowT; rw [List.foldl_append]; rfl
theorem take_snoc' {α : Type} {l : List α} {k : Nat} {x : α} (h : l[k]? = some x) : l.take (k + 1) = l.take k ++ [x] := by rw [List.take_add_one, h]; rfl
theorem stAt_row (s : Stk) : ∀ n, n ≤ s.ps.length → ∀ i, i < s.rs.length → (stAt s n).length = s.rs.length ∧ endAt (stAt s n) i = rowT s (rowOf s i) ((ordP s).take n)
  | 0, _, i, hi => by
    refine ⟨by simp [stAt, begins], ?_⟩
    rw [stAt, endAt_of (t := ((rowOf s i).day + (clsOf s (rowOf s i).cl).term, 0)) (by unfold begins; rw [List.getElem?_map, rowOf_get hi]; rfl)]
    rfl
  | n + 1, hn, i, hi => by
    obtain ⟨hl, ih⟩ := stAt_row s n (by omega) i hi
    have hil : i < (stAt s n).length := by omega
    have hg := List.getElem?_eq_getElem hil
    rw [endAt_of hg] at ih
    refine ⟨by rw [stAt, aftT_len hl], ?_⟩
    rw [stAt, endAt_of (aftT_get hl hg), take_snoc' (ordP_get (by omega)), rowT_snoc, ih]
theorem terms_row {s : Stk} (h : (termsR s).2.2 = 0) {i : Nat} (hi : i < s.rs.length) : endAt (termsR s).1 i = rowT s (rowOf s i) (ordP s) := by
  rw [(terms_zero h).2.1, (stAt_row s _ (Nat.le_refl _) i hi).2, List.take_of_length_le (by rw [ordP_len]; exact Nat.le_refl _)]

/-! ### A seal stands as its row says -/
def okP (s : Stk) (r : Sl) (p : Pf) : Bool := (decide (p.cl = r.cl) && decide (r.day ≤ p.day)) && passB s p
def badP (s : Stk) (r : Sl) (p : Pf) : Bool := (decide (p.cl = r.cl) && decide (r.day ≤ p.day)) && !passB s p
structure Told (s : Stk) (r : Sl) (P : List Pf) (t : Int × Int) : Prop where
  lo : 0 ≤ t.2
  hi : t.2 ≤ (clsOf s r.cl).times
  le : t.2 ≤ (P.countP (okP s r) : Int)
  by_ : (∃ p ∈ P, badP s r p = true ∧ ∃ n : Nat, (n : Int) ≤ t.2 ∧ t.1 = p.day + 1 + n * (clsOf s r.cl).more) ∨ t.1 = r.day + (clsOf s r.cl).term + t.2 * (clsOf s r.cl).more
theorem told {s : Stk} (r : Sl) (h0 : 0 ≤ (clsOf s r.cl).times) : ∀ P : List Pf, Told s r P (rowT s r P) := by
  intro P
  induction P using snoc_ind with
  | h0 => exact ⟨Int.le_refl _, h0, by simp [rowT], .inr (by simp [rowT])⟩
  | h1 P p ih =>
    rw [rowT_snoc]
    obtain ⟨lo, hi, le, hb⟩ := ih
    generalize rowT s r P = t at *
    have hc : (P ++ [p]).countP (okP s r) = P.countP (okP s r) + if okP s r p = true then 1 else 0 := by
      rw [List.countP_append, List.countP_cons, List.countP_nil, Nat.zero_add]
    have hmono : (P.countP (okP s r) : Int) ≤ ((P ++ [p]).countP (okP s r) : Int) := by rw [hc]; omega
    have same : Told s r (P ++ [p]) t := ⟨lo, hi, by omega, hb.imp (fun ⟨q, hq, h1, h2⟩ => ⟨q, List.mem_append_left _ hq, h1, h2⟩) id⟩
    unfold step1
    split
    · rename_i hcond
      obtain ⟨hcl, hf⟩ := hcond
      unfold inForce at hf
      simp only [Bool.and_eq_true, decide_eq_true_eq] at hf
      have hcl2 : decide (p.cl = r.cl) = true := decide_eq_true hcl.symm
      have hd2 : decide (r.day ≤ p.day) = true := decide_eq_true hf.1
      split
      · rename_i hp
        refine ⟨lo, hi, by simp only; omega, .inl ⟨p, List.mem_append_right _ (List.mem_singleton.2 rfl), ?_, 0, by simpa using lo, by simp⟩⟩
        unfold badP; rw [hcl2, hd2, hp]; rfl
      · rename_i hp
        have hp : passB s p = true := by simpa using hp
        have hok : okP s r p = true := by unfold okP; rw [hcl2, hd2, hp]; rfl
        rw [if_pos hok] at hc
        split
        · rename_i ht
          rw [← hcl] at ht ⊢
          refine ⟨by simp only; omega, by simp only; omega, by simp only; rw [hc]; omega, ?_⟩
          rcases hb with ⟨q, hq, h1, n, hn, h2⟩ | h2
          · refine .inl ⟨q, List.mem_append_left _ hq, h1, n + 1, by simp only; omega, ?_⟩
            simp only
            rw [h2, Int.natCast_add, Int.add_mul]; omega
          · refine .inr ?_
            simp only
            rw [h2, Int.add_mul]; omega
        · exact same
    · exact same
theorem terms_told {s : Stk} (h : (termsR s).2.2 = 0) {i : Nat} (hi : i < s.rs.length) : Told s (rowOf s i) s.ps (endAt (termsR s).1 i) := by
  have v := (good_of h).v
  have hr := v.row _ (rowOf_mem hi)
  have hc := v.cls _ (cls_mem hr.2.1.1 hr.2.1.2)
  rw [terms_row h hi]
  have := told (s := s) (rowOf s i) (by omega) (ordP s)
  have hp := ordP_perm s
  refine ⟨this.lo, this.hi, by rw [← hp.countP_eq]; exact this.le, this.by_.imp (fun ⟨p, hq, h⟩ => ⟨p, hp.mem_iff.1 hq, h⟩) id⟩

/-! ### A proof more, after all others -/
def withP (s : Stk) (p : Pf) : Stk := { s with ps := s.ps ++ [p] }
section more
variable {s : Stk} {p : Pf}
theorem ordP_more (h : ∀ q ∈ s.ps, q.day ≤ p.day) : ordP (withP s p) = ordP s ++ [p] := by
  rw [ordP_eq, ordP_eq]
  show isortE dayLt (s.ps ++ [p]) = _
  rw [isortE_snoc]
  have := ins_at (lt := dayLt) (x := p) (l2 := []) (l1 := isortE dayLt s.ps) (fun y hy => by
    have := h y ((isortE_perm dayLt s.ps).mem_iff.1 hy)
    unfold dayLt
    exact decide_eq_false (by omega)) (fun y hy => by cases hy)
  simpa using this
theorem stock_more (h : stockB (withP s p) = true) : stockB s = true := by
  unfold stockB sizesB at h ⊢
  simp only [Bool.and_eq_true, decide_eq_true_eq] at h ⊢
  obtain ⟨⟨⟨⟨h0, h1⟩, h2⟩, h3⟩, h4⟩ := h
  have e : (withP s p).ps = s.ps ++ [p] := rfl
  rw [e] at h3
  rw [e, List.length_append] at h0
  rw [List.all_append, Bool.and_eq_true] at h3
  refine ⟨⟨⟨⟨⟨⟨⟨h0.1.1.1, h0.1.1.2⟩, ?_⟩, h0.2⟩, h1⟩, h2⟩, h3.1⟩, h4⟩
  have := h0.1.2
  omega
/-- What is wrong with a proof, by its number, from the list of proofs. -/
theorem stAt_more (h : ∀ q ∈ s.ps, q.day ≤ p.day) : ∀ n, n ≤ s.ps.length → stAt (withP s p) n = stAt s n
  | 0, _ => rfl
  | n + 1, hn => by
    have ih := stAt_more h n (by omega)
    have h1 := ordP_get (s := withP s p) (n := n) (by show n < (s.ps ++ [p]).length; simp; omega)
    have h2 := ordP_get (s := s) (n := n) (by omega)
    rw [ordP_more h, List.getElem?_append_left (by rw [ordP_len]; omega), h2] at h1
    simp only [Option.some.injEq] at h1
    rw [stAt, stAt, ih, ← h1]
    rfl
theorem prErr_more (h : ∀ q ∈ s.ps, q.day ≤ p.day) {n : Nat} (hn : n < s.ps.length) : prErr (withP s p) n = prErr s n := by
  have h1 := ordP_get (s := withP s p) (n := n) (by show n < (s.ps ++ [p]).length; simp; omega)
  have h2 := ordP_get (s := s) (n := n) (by omega)
  rw [ordP_more h, List.getElem?_append_left (by rw [ordP_len]; omega), h2] at h1
  simp only [Option.some.injEq] at h1
  unfold prErr
  rw [stAt_more h n (by omega), ← h1]
  rfl
theorem terms_mk {s : Stk} (h1 : stockB s = true) (h2 : ∀ i, i < s.rs.length → rowErr s i = 0) (h3 : ∀ i, i < s.bs.length → brErr s i = 0) (h4 : ∀ i, i < s.ps.length → prErr s i = 0) : (termsR s).2.2 = 0 := by
  unfold termsR
  rw [if_neg (by simp [h1]), firstE_none.2 h2]
  simp only
  rw [firstE_none.2 h3]
  simp only
  rw [firstE_none.2 h4]
theorem terms_more (h : ∀ q ∈ s.ps, q.day ≤ p.day) (hx : (termsR (withP s p)).2.2 = 0) : (termsR s).2.2 = 0 := by
  obtain ⟨h1, _, h3, h4, h5⟩ := terms_zero hx
  have h3 := firstE_none.1 h3
  have h4 := firstE_none.1 h4
  have h5 := firstE_none.1 h5
  exact terms_mk (stock_more h1) (fun i hi => h3 i hi) (fun i hi => h4 i hi) fun i hi => by
    rw [← prErr_more h hi]
    exact h5 i (by show i < (s.ps ++ [p]).length; simp; omega)
theorem end_more (h : ∀ q ∈ s.ps, q.day ≤ p.day) (hx : (termsR (withP s p)).2.2 = 0) {i : Nat} (hi : i < s.rs.length) : endAt (termsR (withP s p)).1 i = step1 s p (rowOf s i) (endAt (termsR s).1 i) := by
  rw [terms_row hx (i := i) hi, terms_row (terms_more h hx) hi, ordP_more h, rowT_snoc]
  rfl
theorem endR_zero {s : Stk} {x : Int} (h : (endR s x).2.2 = 0) : (termsR s).2.2 = 0 ∧ ∃ i, rowI s x = some i := by
  unfold endR at h
  split at h
  · rename_i h1
    refine ⟨h1, ?_⟩
    cases hr : rowI s x with
    | none => rw [hr] at h; exact absurd h (show ¬ (4 : Int) = 0 by decide)
    | some i => exact ⟨i, rfl⟩
  · rename_i h1
    exact absurd h h1
theorem endR_more (h : ∀ q ∈ s.ps, q.day ≤ p.day) {x : Int} (hx : (endR (withP s p) x).2.2 = 0) : (endR s x).2.2 = 0 := by
  obtain ⟨h1, i, hi⟩ := endR_zero hx
  rw [endR_at (terms_more h h1) (i := i) hi]
/-- What a proof more, after all others, does to an end. -/
theorem step_told {s : Stk} {p : Pf} {r : Sl} {t : Int × Int} (hm : 0 ≤ (clsOf s p.cl).more) : (r.cl ≠ p.cl → step1 s p r t = t) ∧ (passB s p = true → t.1 ≤ (step1 s p r t).1 ∧ t.2 ≤ (step1 s p r t).2 ∧ (step1 s p r t).2 ≤ t.2 + 1) ∧
    (passB s p = false → (step1 s p r t).1 ≤ t.1 ∧ (step1 s p r t).2 = t.2) := by
  refine ⟨fun h => if_neg fun hh => h hh.1, fun h => ?_, fun h => ?_⟩
  · unfold step1
    split
    · rw [if_neg (by rw [h]; decide)]
      split
      · simp only; omega
      · omega
    · omega
  · unfold step1
    split
    · rename_i hh
      have hf := hh.2
      unfold inForce at hf
      simp only [Bool.and_eq_true, decide_eq_true_eq] at hf
      exact ⟨by simp only; omega, rfl⟩
    · exact ⟨by omega, rfl⟩
end more
end Go.Te
namespace Go.Mw
open Go.Proofs Go.Te
theorem follows_mixed : Try.prog.follows .mixedOrders = true := by kernel_rfl
abbrev D.i (n : Int) : D := .raw (.int .i64 n)
@[go_sem] def encInt (n : Int) : List D := [.i n]
@[go_sem] def encNat (n : Nat) : List D := [.i n]
abbrev intsD (l : List Int) : D := .sl 1 (l.map encInt)
abbrev natsD (l : List Nat) : D := .sl 1 (l.map encNat)
@[go_sem] def encCls (c : Cls) : List D := [.i c.term, .i c.times, .i c.more, .i c.fail]
@[go_sem] def encSl (r : Sl) : List D := [.i r.fr, .i r.to, .i r.cl, .i r.day]
@[go_sem] def encPf (p : Pf) : List D := [.i p.cl, .i p.day, intsD p.seals, .i p.failed]
@[go_sem] def encBr (b : Br) : List D := [.i b.no, .i b.day]
@[go_sem] def encTm (t : Int × Int) : List D := [.i t.1, .i t.2]
@[go_sem] def encRow (p : Sl × Int × Int) : List D := [.i p.1.fr, .i p.1.to, .i p.1.cl, .i p.1.day, .i p.2.1, .i p.2.2]
abbrev clsV (c : Cls) : AV := .val true ((encCls c).map .d)
abbrev slV (c : Sl) : AV := .val true ((encSl c).map .d)
abbrev pfV (c : Pf) : AV := .val true ((encPf c).map .d)
abbrev brV (c : Br) : AV := .val true ((encBr c).map .d)
abbrev rowV (c : Sl × Int × Int) : AV := .val true ((encRow c).map .d)
abbrev csD (l : List Cls) : D := .sl 4 (l.map encCls)
abbrev slsD (l : List Sl) : D := .sl 4 (l.map encSl)
abbrev psD (l : List Pf) : D := .sl 4 (l.map encPf)
abbrev bsD (l : List Br) : D := .sl 2 (l.map encBr)
abbrev tmsD (l : List (Int × Int)) : D := .sl 2 (l.map encTm)
@[go_sem] def encStk (s : Stk) : List D := [csD s.cs, slsD s.rs, psD s.ps, bsD s.bs]
abbrev stkV (s : Stk) : AV := .val true ((encStk s).map .d)
abbrev spanV (lo hi : Int) : AV := .val true [.d (.i lo), .d (.i hi)]
abbrev tupI (l : List Int) : AV := .tup (l.map fun n => (false, [.d (.i n)]))
abbrev optI (o : Option Nat) : Int := match o with
  | some n => n
  | none => -1
end Go.Mw
namespace Go.Mw
open Go.Proofs Go.RowKit Go.ChangeShapes Go.WideShapes Go.Te

theorem rows_map {α : Type} {f : α → List D} : ∀ {rows : List (List D)}, (∀ r ∈ rows, ∃ x, r = f x) → ∃ l : List α, rows = l.map f
  | [], _ => ⟨[], rfl⟩
  | r :: rows, h => by
    obtain ⟨x, rfl⟩ := h r (by simp)
    obtain ⟨l, rfl⟩ := rows_map (rows := rows) fun q hq => h q (List.mem_cons_of_mem _ hq)
    exact ⟨x :: l, rfl⟩
section
variable {H : Type} {enc : TypeId × Value → H} {W : World} {v : Value} {d : DataW H} {ps : List MemPlace}
abbrev TReads (enc : TypeId × Value → H) (W : World) (t : TypeId) (Q : List D → Prop) : Prop := Reads enc Try.prog W 0 (fun _ => true) true t Q
theorem r_int : TReads enc W 3 (fun ds => ∃ n : Int, ds = [.i n]) := reads_flat (ks := [.int .i64]) (by kernel_rfl) fun r h => by
  obtain ⟨a, r, rfl, ⟨n, hn, _⟩, h⟩ := all2_inv h
  have := all2_nil h
  subst hn this
  exact ⟨n, rfl⟩
theorem r_cls : TReads enc W 50 (fun ds => ∃ x : Cls, ds = encCls x) := reads_flat (ks := [.int .i64, .int .i64, .int .i64, .int .i64]) (by kernel_rfl) fun r h => by
  obtain ⟨a, r, rfl, ⟨n, hn, _⟩, h⟩ := all2_inv h
  obtain ⟨b, r, rfl, ⟨m, hm, _⟩, h⟩ := all2_inv h
  obtain ⟨c, r, rfl, ⟨k, hk, _⟩, h⟩ := all2_inv h
  obtain ⟨e, r, rfl, ⟨j, hj, _⟩, h⟩ := all2_inv h
  have := all2_nil h
  subst hn hm hk hj this
  exact ⟨⟨n, m, k, j⟩, rfl⟩
theorem r_sl : TReads enc W 42 (fun ds => ∃ x : Sl, ds = encSl x) := reads_flat (ks := [.int .i64, .int .i64, .int .i64, .int .i64]) (by kernel_rfl) fun r h => by
  obtain ⟨a, r, rfl, ⟨n, hn, _⟩, h⟩ := all2_inv h
  obtain ⟨b, r, rfl, ⟨m, hm, _⟩, h⟩ := all2_inv h
  obtain ⟨c, r, rfl, ⟨k, hk, _⟩, h⟩ := all2_inv h
  obtain ⟨e, r, rfl, ⟨j, hj, _⟩, h⟩ := all2_inv h
  have := all2_nil h
  subst hn hm hk hj this
  exact ⟨⟨n, m, k, j⟩, rfl⟩
theorem r_br : TReads enc W 43 (fun ds => ∃ x : Br, ds = encBr x) := reads_array (n := 2) (e := 3) (k := .int .i64) (by kernel_rfl) (by kernel_rfl) (by kernel_rfl) (by kernel_rfl) fun r h => by
  obtain ⟨a, r, rfl, ⟨n, hn, _⟩, h⟩ := all2_inv h
  obtain ⟨b, r, rfl, ⟨m, hm, _⟩, h⟩ := all2_inv h
  have := all2_nil h
  subst hn hm this
  exact ⟨⟨n, m⟩, rfl⟩
theorem r_ints : TReads enc W 32 (fun ds => ∃ l : List Int, ds = [intsD l]) := fun fuel cs x h => by
  obtain ⟨ds, ⟨rows, rfl, hr⟩, ha⟩ := reads_slice (k := 1) (by kernel_rfl) r_int (by kernel_rfl) (by decide) fuel cs x h
  obtain ⟨l, rfl⟩ := rows_map (f := encInt) (rows := rows) fun r h => by obtain ⟨n, rfl⟩ := hr r h; exact ⟨n, rfl⟩
  exact ⟨_, ⟨l, rfl⟩, ha⟩
theorem r_pf : TReads enc W 52 (fun ds => ∃ x : Pf, ds = encPf x) := fun fuel cs x h => by
  obtain ⟨n, ha⟩ := struct_one (P := Try.prog) (t := 52) (ts := [3, 3, 32, 3]) (by kernel_rfl) h
  obtain ⟨a, r, rfl, h1, ha⟩ := all2_inv ha
  obtain ⟨b, r, rfl, h2, ha⟩ := all2_inv ha
  obtain ⟨c, r, rfl, h3, ha⟩ := all2_inv ha
  obtain ⟨e, r, rfl, h4, ha⟩ := all2_inv ha
  have := all2_nil ha
  subst this
  obtain ⟨d1, ⟨x1, e1⟩, q1⟩ := reads_one r_int h1
  obtain ⟨d2, ⟨x2, e2⟩, q2⟩ := reads_one r_int h2
  obtain ⟨d3, ⟨x3, e3⟩, q3⟩ := reads_one r_ints h3
  obtain ⟨d4, ⟨x4, e4⟩, q4⟩ := reads_one r_int h4
  cases e1; cases e2; cases e3; cases e4
  exact ⟨_, ⟨⟨x1, x2, x3, x4⟩, rfl⟩, q1, q2, q3, q4, trivial⟩
theorem r_stk : TReads enc W 27 (fun ds => ∃ x : Stk, ds = encStk x) := fun fuel cs x h => by
  obtain ⟨n, ha⟩ := struct_one (P := Try.prog) (t := 27) (ts := [22, 23, 24, 25]) (by kernel_rfl) h
  obtain ⟨a, r, rfl, h1, ha⟩ := all2_inv ha
  obtain ⟨b, r, rfl, h2, ha⟩ := all2_inv ha
  obtain ⟨c, r, rfl, h3, ha⟩ := all2_inv ha
  obtain ⟨e, r, rfl, h4, ha⟩ := all2_inv ha
  have := all2_nil ha
  subst this
  obtain ⟨d1, ⟨x1, e1, p1⟩, q1⟩ := reads_one (reads_slice (k := 4) (by kernel_rfl) r_cls (by kernel_rfl) (by decide)) h1
  obtain ⟨d2, ⟨x2, e2, p2⟩, q2⟩ := reads_one (reads_slice (k := 4) (by kernel_rfl) r_sl (by kernel_rfl) (by decide)) h2
  obtain ⟨d3, ⟨x3, e3, p3⟩, q3⟩ := reads_one (reads_slice (k := 4) (by kernel_rfl) r_pf (by kernel_rfl) (by decide)) h3
  obtain ⟨d4, ⟨x4, e4, p4⟩, q4⟩ := reads_one (reads_slice (k := 2) (by kernel_rfl) r_br (by kernel_rfl) (by decide)) h4
  obtain ⟨l1, rfl⟩ := rows_map p1
  obtain ⟨l2, rfl⟩ := rows_map p2
  obtain ⟨l3, rfl⟩ := rows_map p3
  obtain ⟨l4, rfl⟩ := rows_map p4
  cases e1; cases e2; cases e3; cases e4
  exact ⟨_, ⟨⟨l1, l2, l3, l4⟩, rfl⟩, q1, q2, q3, q4, trivial⟩
set_option maxRecDepth 20000 in
theorem agg_read {t : TypeId} {α : Type} {f : α → List D} (hs : structB Try.prog t = true) (hr : TReads enc W t (fun ds => ∃ x : α, ds = f x)) {b0 : Nat} {r : Reach} (hv : Value.okWide Try.prog W r b0 t v) (h : DataW.Trod enc Try.prog W 0 (fun _ => true) true t v d ps) :
    ∃ x : α, RepV (fun b _ => b < W.heap.size) noVal (look []) W (.val true ((f x).map .d)) v := by
  obtain ⟨cs, rfl⟩ := struct_agg hs hv
  obtain ⟨fuel, hf⟩ := h
  have hcs : (Value.agg cs).cells.toList = cs.toList := rfl
  rw [hcs] at hf
  obtain ⟨ds, ⟨x, rfl⟩, ha⟩ := hr _ _ _ hf
  refine ⟨x, cs.toList, by simp, ?_⟩
  exact all2_map (R' := RepL (fun b _ => b < W.heap.size) noVal (look []) W) AL.d (fun a b h => h) ha
set_option maxRecDepth 20000 in
theorem stk_read {b0 : Nat} {r : Reach} (hv : Value.okWide Try.prog W r b0 27 v) (h : DataW.Trod enc Try.prog W 0 (fun _ => true) true 27 v d ps) :
    ∃ x : Stk, RepV (fun b _ => b < W.heap.size) noVal (look []) W (stkV x) v := agg_read (by kernel_rfl) r_stk hv h
set_option maxRecDepth 20000 in
theorem pf_read {b0 : Nat} {r : Reach} (hv : Value.okWide Try.prog W r b0 52 v) (h : DataW.Trod enc Try.prog W 0 (fun _ => true) true 52 v d ps) :
    ∃ x : Pf, RepV (fun b _ => b < W.heap.size) noVal (look []) W (pfV x) v := agg_read (by kernel_rfl) r_pf hv h
set_option maxRecDepth 20000 in
theorem span_read {b0 : Nat} {r : Reach} (hv : Value.okWide Try.prog W r b0 29 v) (h : DataW.Trod enc Try.prog W 0 (fun _ => true) true 29 v d ps) :
    ∃ x : Int × Int, RepV (fun b _ => b < W.heap.size) noVal (look []) W (spanV x.1 x.2) v :=
  agg_read (f := fun x : Int × Int => [.i x.1, .i x.2]) (by kernel_rfl) (reads_flat (ks := [.int .i64, .int .i64]) (by kernel_rfl) fun r h => by
    obtain ⟨a, r, rfl, ⟨n, hn, _⟩, h⟩ := all2_inv h
    obtain ⟨b, r, rfl, ⟨m, hm, _⟩, h⟩ := all2_inv h
    have := all2_nil h
    subst hn hm this
    exact ⟨(n, m), rfl⟩) hv h
end
end Go.Mw
