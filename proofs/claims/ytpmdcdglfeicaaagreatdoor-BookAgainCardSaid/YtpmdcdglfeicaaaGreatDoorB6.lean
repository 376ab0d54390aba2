/- Closed facts on the program's table of types. -/
import Derived.Test.YtpmdcdglfeicaaaGreatDoorD1
import Derived.Test.YtpmdcdglfeicaaaGreatDoorProg
import Derived.Test.YtpmdcdglfeicaaaGreatDoorB3
import Derived.Shelf.Lays
import Derived.Shelf.LaysM
import GoSem.Extern.Twins
import Derived.Test.YtpmdcdglfeicaaaGreatDoorB4
import Derived.Shelf.Strings.Prefix
import Derived.Shelf.Strings.OnBuilder
import Derived.Shelf.Strings.Repeat
import Derived.Shelf.Strings.Trim
import Derived.Shelf.Strings.SplitShaped
import Derived.Shelf.Strings.Shaped
import Derived.Shelf.Strconv.Itoa3
import Derived.Shelf.Small.Bits
import Derived.Lib.AppendIntMem
import Derived.WalkSmall
import Derived.Lib.ItoaLen
import Derived.Lib.Join
import Derived.Lib.Repeat
import Derived.Lib.TrimByte
import Derived.Lib.Strings
import Derived.Lib.BitFns
import Derived.Laws.RangeAny
import Derived.Laws.RangeString
import Derived.Test.YtpmdcdglfeicaaaGreatDoorB5
set_option maxRecDepth 100000
set_option maxHeartbeats 2000000
set_option linter.unusedSimpArgs false
set_option linter.unusedVariables false
set_option linter.unusedSectionVars false
set_option linter.deprecated false
namespace Go.Mw
open Go.Proofs
@[go_sem] theorem f_t3 : tySize Tryz.prog 3 = some 1 ∧ tyBytes Tryz.prog 3 = some 8 ∧ tyAg Tryz.prog 3 = some false ∧ tyEl Tryz.prog 3 = none ∧ tyInt Tryz.prog 3 = some IntKind.i64 ∧ tyStr Tryz.prog 3 = false ∧ tyBool Tryz.prog 3 = false ∧ tyArr Tryz.prog 3 = none ∧ tyArrA Tryz.prog 3 = none ∧ tyInts Tryz.prog 3 = none ∧ tyPlaces Tryz.prog 3 = none ∧ zeroLs Tryz.prog 3 = some (false, [D.raw (Value.int IntKind.i64 (0))]) ∧ Program.concrete Tryz.prog 3 = true := by and_intros <;> kernel_rfl
@[go_sem] theorem f_t4 : tySize Tryz.prog 4 = some 1 ∧ tyBytes Tryz.prog 4 = some 1 ∧ tyAg Tryz.prog 4 = some false ∧ tyEl Tryz.prog 4 = none ∧ tyInt Tryz.prog 4 = none ∧ tyStr Tryz.prog 4 = false ∧ tyBool Tryz.prog 4 = true ∧ tyArr Tryz.prog 4 = none ∧ tyArrA Tryz.prog 4 = none ∧ tyInts Tryz.prog 4 = none ∧ tyPlaces Tryz.prog 4 = none ∧ zeroLs Tryz.prog 4 = some (false, [D.raw (Value.bool false)]) ∧ Program.concrete Tryz.prog 4 = true := by and_intros <;> kernel_rfl
@[go_sem] theorem f_t5 : tySize Tryz.prog 5 = some 1 ∧ tyBytes Tryz.prog 5 = some 1 ∧ tyAg Tryz.prog 5 = some false ∧ tyEl Tryz.prog 5 = none ∧ tyInt Tryz.prog 5 = some IntKind.u8 ∧ tyStr Tryz.prog 5 = false ∧ tyBool Tryz.prog 5 = false ∧ tyArr Tryz.prog 5 = none ∧ tyArrA Tryz.prog 5 = none ∧ tyInts Tryz.prog 5 = none ∧ tyPlaces Tryz.prog 5 = none ∧ zeroLs Tryz.prog 5 = some (false, [D.raw (Value.int IntKind.u8 (0))]) ∧ Program.concrete Tryz.prog 5 = true := by and_intros <;> kernel_rfl
@[go_sem] theorem f_t9 : tySize Tryz.prog 9 = some 1 ∧ tyBytes Tryz.prog 9 = some 16 ∧ tyAg Tryz.prog 9 = some false ∧ tyEl Tryz.prog 9 = none ∧ tyInt Tryz.prog 9 = none ∧ tyStr Tryz.prog 9 = true ∧ tyBool Tryz.prog 9 = false ∧ tyArr Tryz.prog 9 = none ∧ tyArrA Tryz.prog 9 = none ∧ tyInts Tryz.prog 9 = none ∧ tyPlaces Tryz.prog 9 = none ∧ zeroLs Tryz.prog 9 = some (false, [D.raw (Value.string (ByteArray.mk (List.toArray [])))]) ∧ Program.concrete Tryz.prog 9 = true := by and_intros <;> kernel_rfl
@[go_sem] theorem f_t20 : tySize Tryz.prog 20 = some 1 ∧ tyBytes Tryz.prog 20 = some 16 ∧ tyAg Tryz.prog 20 = some false ∧ tyEl Tryz.prog 20 = none ∧ tyInt Tryz.prog 20 = none ∧ tyStr Tryz.prog 20 = false ∧ tyBool Tryz.prog 20 = false ∧ tyArr Tryz.prog 20 = none ∧ tyArrA Tryz.prog 20 = none ∧ tyInts Tryz.prog 20 = none ∧ tyPlaces Tryz.prog 20 = none ∧ zeroLs Tryz.prog 20 = some (false, [D.raw Value.nilIface]) ∧ Program.concrete Tryz.prog 20 = false := by and_intros <;> kernel_rfl
@[go_sem] theorem f_t21 : tySize Tryz.prog 21 = some 1 ∧ tyBytes Tryz.prog 21 = some 4 ∧ tyAg Tryz.prog 21 = some false ∧ tyEl Tryz.prog 21 = none ∧ tyInt Tryz.prog 21 = some IntKind.i32 ∧ tyStr Tryz.prog 21 = false ∧ tyBool Tryz.prog 21 = false ∧ tyArr Tryz.prog 21 = none ∧ tyArrA Tryz.prog 21 = none ∧ tyInts Tryz.prog 21 = none ∧ tyPlaces Tryz.prog 21 = none ∧ zeroLs Tryz.prog 21 = some (false, [D.raw (Value.int IntKind.i32 (0))]) ∧ Program.concrete Tryz.prog 21 = true := by and_intros <;> kernel_rfl
@[go_sem] theorem f_t28 : tySize Tryz.prog 28 = some 1 ∧ tyBytes Tryz.prog 28 = some 24 ∧ tyAg Tryz.prog 28 = some false ∧ tyEl Tryz.prog 28 = some 31 ∧ tyInt Tryz.prog 28 = none ∧ tyStr Tryz.prog 28 = false ∧ tyBool Tryz.prog 28 = false ∧ tyArr Tryz.prog 28 = none ∧ tyArrA Tryz.prog 28 = none ∧ tyInts Tryz.prog 28 = none ∧ tyPlaces Tryz.prog 28 = none ∧ zeroLs Tryz.prog 28 = some (false, [D.raw (Value.slice none 0 0)]) ∧ Program.concrete Tryz.prog 28 = true := by and_intros <;> kernel_rfl
@[go_sem] theorem f_t29 : tySize Tryz.prog 29 = some 1 ∧ tyBytes Tryz.prog 29 = some 24 ∧ tyAg Tryz.prog 29 = some false ∧ tyEl Tryz.prog 29 = some 3 ∧ tyInt Tryz.prog 29 = none ∧ tyStr Tryz.prog 29 = false ∧ tyBool Tryz.prog 29 = false ∧ tyArr Tryz.prog 29 = none ∧ tyArrA Tryz.prog 29 = none ∧ tyInts Tryz.prog 29 = none ∧ tyPlaces Tryz.prog 29 = none ∧ zeroLs Tryz.prog 29 = some (false, [D.raw (Value.slice none 0 0)]) ∧ Program.concrete Tryz.prog 29 = true := by and_intros <;> kernel_rfl
@[go_sem] theorem f_t31 : tySize Tryz.prog 31 = some 2 ∧ tyBytes Tryz.prog 31 = some 32 ∧ tyAg Tryz.prog 31 = some true ∧ tyEl Tryz.prog 31 = none ∧ tyInt Tryz.prog 31 = none ∧ tyStr Tryz.prog 31 = false ∧ tyBool Tryz.prog 31 = false ∧ tyArr Tryz.prog 31 = none ∧ tyArrA Tryz.prog 31 = none ∧ tyInts Tryz.prog 31 = none ∧ tyPlaces Tryz.prog 31 = some [(0, 1), (1, 1)] ∧ zeroLs Tryz.prog 31 = some (true, [D.raw (Value.int IntKind.i64 (0)), D.raw (Value.slice none 0 0)]) ∧ Program.concrete Tryz.prog 31 = true := by and_intros <;> kernel_rfl
@[go_sem] theorem f_t35 : tySize Tryz.prog 35 = some 1 ∧ tyBytes Tryz.prog 35 = some 8 ∧ tyAg Tryz.prog 35 = some false ∧ tyEl Tryz.prog 35 = none ∧ tyInt Tryz.prog 35 = some IntKind.i64 ∧ tyStr Tryz.prog 35 = false ∧ tyBool Tryz.prog 35 = false ∧ tyArr Tryz.prog 35 = none ∧ tyArrA Tryz.prog 35 = none ∧ tyInts Tryz.prog 35 = none ∧ tyPlaces Tryz.prog 35 = none ∧ zeroLs Tryz.prog 35 = some (false, [D.raw (Value.int IntKind.i64 (0))]) ∧ Program.concrete Tryz.prog 35 = true := by and_intros <;> kernel_rfl
@[go_sem] theorem f_t52 : tySize Tryz.prog 52 = some 1 ∧ tyBytes Tryz.prog 52 = some 24 ∧ tyAg Tryz.prog 52 = some false ∧ tyEl Tryz.prog 52 = some 70 ∧ tyInt Tryz.prog 52 = none ∧ tyStr Tryz.prog 52 = false ∧ tyBool Tryz.prog 52 = false ∧ tyArr Tryz.prog 52 = none ∧ tyArrA Tryz.prog 52 = none ∧ tyInts Tryz.prog 52 = none ∧ tyPlaces Tryz.prog 52 = none ∧ zeroLs Tryz.prog 52 = some (false, [D.raw (Value.slice none 0 0)]) ∧ Program.concrete Tryz.prog 52 = true := by and_intros <;> kernel_rfl
@[go_sem] theorem f_t53 : tySize Tryz.prog 53 = some 1 ∧ tyBytes Tryz.prog 53 = some 24 ∧ tyAg Tryz.prog 53 = some false ∧ tyEl Tryz.prog 53 = some 5 ∧ tyInt Tryz.prog 53 = none ∧ tyStr Tryz.prog 53 = false ∧ tyBool Tryz.prog 53 = false ∧ tyArr Tryz.prog 53 = none ∧ tyArrA Tryz.prog 53 = none ∧ tyInts Tryz.prog 53 = none ∧ tyPlaces Tryz.prog 53 = none ∧ zeroLs Tryz.prog 53 = some (false, [D.raw (Value.slice none 0 0)]) ∧ Program.concrete Tryz.prog 53 = true := by and_intros <;> kernel_rfl
@[go_sem] theorem f_t61 : tySize Tryz.prog 61 = some 1 ∧ tyBytes Tryz.prog 61 = some 24 ∧ tyAg Tryz.prog 61 = some false ∧ tyEl Tryz.prog 61 = some 68 ∧ tyInt Tryz.prog 61 = none ∧ tyStr Tryz.prog 61 = false ∧ tyBool Tryz.prog 61 = false ∧ tyArr Tryz.prog 61 = none ∧ tyArrA Tryz.prog 61 = none ∧ tyInts Tryz.prog 61 = none ∧ tyPlaces Tryz.prog 61 = none ∧ zeroLs Tryz.prog 61 = some (false, [D.raw (Value.slice none 0 0)]) ∧ Program.concrete Tryz.prog 61 = true := by and_intros <;> kernel_rfl
@[go_sem] theorem f_t65 : tySize Tryz.prog 65 = some 1 ∧ tyBytes Tryz.prog 65 = some 8 ∧ tyAg Tryz.prog 65 = some false ∧ tyEl Tryz.prog 65 = none ∧ tyInt Tryz.prog 65 = none ∧ tyStr Tryz.prog 65 = false ∧ tyBool Tryz.prog 65 = false ∧ tyArr Tryz.prog 65 = none ∧ tyArrA Tryz.prog 65 = none ∧ tyInts Tryz.prog 65 = none ∧ tyPlaces Tryz.prog 65 = none ∧ zeroLs Tryz.prog 65 = some (false, [D.raw Value.nilFunc]) ∧ Program.concrete Tryz.prog 65 = true := by and_intros <;> kernel_rfl
@[go_sem] theorem f_t66 : tySize Tryz.prog 66 = some 1 ∧ tyBytes Tryz.prog 66 = some 24 ∧ tyAg Tryz.prog 66 = some false ∧ tyEl Tryz.prog 66 = some 146 ∧ tyInt Tryz.prog 66 = none ∧ tyStr Tryz.prog 66 = false ∧ tyBool Tryz.prog 66 = false ∧ tyArr Tryz.prog 66 = none ∧ tyArrA Tryz.prog 66 = none ∧ tyInts Tryz.prog 66 = none ∧ tyPlaces Tryz.prog 66 = none ∧ zeroLs Tryz.prog 66 = some (false, [D.raw (Value.slice none 0 0)]) ∧ Program.concrete Tryz.prog 66 = true := by and_intros <;> kernel_rfl
@[go_sem] theorem f_t68 : tySize Tryz.prog 68 = some 2 ∧ tyBytes Tryz.prog 68 = some 32 ∧ tyAg Tryz.prog 68 = some true ∧ tyEl Tryz.prog 68 = none ∧ tyInt Tryz.prog 68 = none ∧ tyStr Tryz.prog 68 = false ∧ tyBool Tryz.prog 68 = false ∧ tyArr Tryz.prog 68 = none ∧ tyArrA Tryz.prog 68 = none ∧ tyInts Tryz.prog 68 = none ∧ tyPlaces Tryz.prog 68 = some [(0, 1), (1, 1)] ∧ zeroLs Tryz.prog 68 = some (true, [D.raw (Value.int IntKind.i64 (0)), D.raw (Value.slice none 0 0)]) ∧ Program.concrete Tryz.prog 68 = true := by and_intros <;> kernel_rfl
@[go_sem] theorem f_t70 : tySize Tryz.prog 70 = some 3 ∧ tyBytes Tryz.prog 70 = some 24 ∧ tyAg Tryz.prog 70 = some true ∧ tyEl Tryz.prog 70 = none ∧ tyInt Tryz.prog 70 = none ∧ tyStr Tryz.prog 70 = false ∧ tyBool Tryz.prog 70 = false ∧ tyArr Tryz.prog 70 = none ∧ tyArrA Tryz.prog 70 = none ∧ tyInts Tryz.prog 70 = some 3 ∧ tyPlaces Tryz.prog 70 = some [(0, 1), (1, 1), (2, 1)] ∧ zeroLs Tryz.prog 70 = some (true, [D.raw (Value.int IntKind.i64 (0)), D.raw (Value.int IntKind.i64 (0)), D.raw (Value.int IntKind.i64 (0))]) ∧ Program.concrete Tryz.prog 70 = true := by and_intros <;> kernel_rfl
@[go_sem] theorem f_t86 : tySize Tryz.prog 86 = some 1 ∧ tyBytes Tryz.prog 86 = some 8 ∧ tyAg Tryz.prog 86 = some false ∧ tyEl Tryz.prog 86 = none ∧ tyInt Tryz.prog 86 = none ∧ tyStr Tryz.prog 86 = false ∧ tyBool Tryz.prog 86 = false ∧ tyArr Tryz.prog 86 = none ∧ tyArrA Tryz.prog 86 = none ∧ tyInts Tryz.prog 86 = none ∧ tyPlaces Tryz.prog 86 = none ∧ zeroLs Tryz.prog 86 = some (false, [D.raw (Value.pointer none)]) ∧ Program.concrete Tryz.prog 86 = true := by and_intros <;> kernel_rfl
@[go_sem] theorem f_t88 : tySize Tryz.prog 88 = some 2 ∧ tyBytes Tryz.prog 88 = some 32 ∧ tyAg Tryz.prog 88 = some true ∧ tyEl Tryz.prog 88 = none ∧ tyInt Tryz.prog 88 = none ∧ tyStr Tryz.prog 88 = false ∧ tyBool Tryz.prog 88 = false ∧ tyArr Tryz.prog 88 = none ∧ tyArrA Tryz.prog 88 = none ∧ tyInts Tryz.prog 88 = none ∧ tyPlaces Tryz.prog 88 = some [(0, 1), (1, 1)] ∧ zeroLs Tryz.prog 88 = some (true, [D.raw (Value.pointer none), D.raw (Value.slice none 0 0)]) ∧ Program.concrete Tryz.prog 88 = true := by and_intros <;> kernel_rfl
@[go_sem] theorem f_t90 : tySize Tryz.prog 90 = some 2 ∧ tyBytes Tryz.prog 90 = some 32 ∧ tyAg Tryz.prog 90 = some true ∧ tyEl Tryz.prog 90 = none ∧ tyInt Tryz.prog 90 = none ∧ tyStr Tryz.prog 90 = false ∧ tyBool Tryz.prog 90 = false ∧ tyArr Tryz.prog 90 = none ∧ tyArrA Tryz.prog 90 = none ∧ tyInts Tryz.prog 90 = none ∧ tyPlaces Tryz.prog 90 = some [(0, 2)] ∧ zeroLs Tryz.prog 90 = some (true, [D.raw (Value.pointer none), D.raw (Value.slice none 0 0)]) ∧ Program.concrete Tryz.prog 90 = true := by and_intros <;> kernel_rfl
@[go_sem] theorem f_t92 : tySize Tryz.prog 92 = some 1 ∧ tyBytes Tryz.prog 92 = some 24 ∧ tyAg Tryz.prog 92 = some false ∧ tyEl Tryz.prog 92 = some 9 ∧ tyInt Tryz.prog 92 = none ∧ tyStr Tryz.prog 92 = false ∧ tyBool Tryz.prog 92 = false ∧ tyArr Tryz.prog 92 = none ∧ tyArrA Tryz.prog 92 = none ∧ tyInts Tryz.prog 92 = none ∧ tyPlaces Tryz.prog 92 = none ∧ zeroLs Tryz.prog 92 = some (false, [D.raw (Value.slice none 0 0)]) ∧ Program.concrete Tryz.prog 92 = true := by and_intros <;> kernel_rfl
@[go_sem] theorem f_t93 : tySize Tryz.prog 93 = some 1 ∧ tyBytes Tryz.prog 93 = some 24 ∧ tyAg Tryz.prog 93 = some false ∧ tyEl Tryz.prog 93 = some 96 ∧ tyInt Tryz.prog 93 = none ∧ tyStr Tryz.prog 93 = false ∧ tyBool Tryz.prog 93 = false ∧ tyArr Tryz.prog 93 = none ∧ tyArrA Tryz.prog 93 = none ∧ tyInts Tryz.prog 93 = none ∧ tyPlaces Tryz.prog 93 = none ∧ zeroLs Tryz.prog 93 = some (false, [D.raw (Value.slice none 0 0)]) ∧ Program.concrete Tryz.prog 93 = true := by and_intros <;> kernel_rfl
@[go_sem] theorem f_t96 : tySize Tryz.prog 96 = some 2 ∧ tyBytes Tryz.prog 96 = some 16 ∧ tyAg Tryz.prog 96 = some true ∧ tyEl Tryz.prog 96 = none ∧ tyInt Tryz.prog 96 = none ∧ tyStr Tryz.prog 96 = false ∧ tyBool Tryz.prog 96 = false ∧ tyArr Tryz.prog 96 = none ∧ tyArrA Tryz.prog 96 = none ∧ tyInts Tryz.prog 96 = some 2 ∧ tyPlaces Tryz.prog 96 = some [(0, 1), (1, 1)] ∧ zeroLs Tryz.prog 96 = some (true, [D.raw (Value.int IntKind.i64 (0)), D.raw (Value.int IntKind.i64 (0))]) ∧ Program.concrete Tryz.prog 96 = true := by and_intros <;> kernel_rfl
@[go_sem] theorem f_t117 : tySize Tryz.prog 117 = some 1 ∧ tyBytes Tryz.prog 117 = some 8 ∧ tyAg Tryz.prog 117 = some false ∧ tyEl Tryz.prog 117 = none ∧ tyInt Tryz.prog 117 = none ∧ tyStr Tryz.prog 117 = false ∧ tyBool Tryz.prog 117 = false ∧ tyArr Tryz.prog 117 = none ∧ tyArrA Tryz.prog 117 = none ∧ tyInts Tryz.prog 117 = none ∧ tyPlaces Tryz.prog 117 = none ∧ zeroLs Tryz.prog 117 = some (false, [D.raw Value.nilFunc]) ∧ Program.concrete Tryz.prog 117 = true := by and_intros <;> kernel_rfl
@[go_sem] theorem f_t118 : tySize Tryz.prog 118 = some 1 ∧ tyBytes Tryz.prog 118 = some 8 ∧ tyAg Tryz.prog 118 = some false ∧ tyEl Tryz.prog 118 = none ∧ tyInt Tryz.prog 118 = none ∧ tyStr Tryz.prog 118 = false ∧ tyBool Tryz.prog 118 = false ∧ tyArr Tryz.prog 118 = none ∧ tyArrA Tryz.prog 118 = none ∧ tyInts Tryz.prog 118 = none ∧ tyPlaces Tryz.prog 118 = none ∧ zeroLs Tryz.prog 118 = some (false, [D.raw Value.nilFunc]) ∧ Program.concrete Tryz.prog 118 = true := by and_intros <;> kernel_rfl
@[go_sem] theorem f_t120 : tySize Tryz.prog 120 = some 1 ∧ tyBytes Tryz.prog 120 = some 1 ∧ tyAg Tryz.prog 120 = some false ∧ tyEl Tryz.prog 120 = none ∧ tyInt Tryz.prog 120 = some IntKind.i8 ∧ tyStr Tryz.prog 120 = false ∧ tyBool Tryz.prog 120 = false ∧ tyArr Tryz.prog 120 = none ∧ tyArrA Tryz.prog 120 = none ∧ tyInts Tryz.prog 120 = none ∧ tyPlaces Tryz.prog 120 = none ∧ zeroLs Tryz.prog 120 = some (false, [D.raw (Value.int IntKind.i8 (0))]) ∧ Program.concrete Tryz.prog 120 = true := by and_intros <;> kernel_rfl
@[go_sem] theorem f_t122 : tySize Tryz.prog 122 = some 3 ∧ tyBytes Tryz.prog 122 = some 40 ∧ tyAg Tryz.prog 122 = some true ∧ tyEl Tryz.prog 122 = none ∧ tyInt Tryz.prog 122 = none ∧ tyStr Tryz.prog 122 = false ∧ tyBool Tryz.prog 122 = false ∧ tyArr Tryz.prog 122 = none ∧ tyArrA Tryz.prog 122 = none ∧ tyInts Tryz.prog 122 = none ∧ tyPlaces Tryz.prog 122 = some [(0, 1), (1, 1), (2, 1)] ∧ zeroLs Tryz.prog 122 = some (true, [D.raw (Value.slice none 0 0), D.raw (Value.int IntKind.i64 (0)), D.raw (Value.int IntKind.i8 (0))]) ∧ Program.concrete Tryz.prog 122 = true := by and_intros <;> kernel_rfl
@[go_sem] theorem f_t124 : tySize Tryz.prog 124 = some 6 ∧ tyBytes Tryz.prog 124 = some 64 ∧ tyAg Tryz.prog 124 = some true ∧ tyEl Tryz.prog 124 = none ∧ tyInt Tryz.prog 124 = none ∧ tyStr Tryz.prog 124 = false ∧ tyBool Tryz.prog 124 = false ∧ tyArr Tryz.prog 124 = none ∧ tyArrA Tryz.prog 124 = none ∧ tyInts Tryz.prog 124 = none ∧ tyPlaces Tryz.prog 124 = some [(0, 3), (3, 1), (4, 1), (5, 1)] ∧ zeroLs Tryz.prog 124 = some (true, [D.raw (Value.slice none 0 0), D.raw (Value.int IntKind.i64 (0)), D.raw (Value.int IntKind.i8 (0)), D.raw (Value.int IntKind.u8 (0)), D.raw (Value.int IntKind.i64 (0)), D.raw (Value.int IntKind.i64 (0))]) ∧ Program.concrete Tryz.prog 124 = true := by and_intros <;> kernel_rfl
@[go_sem] theorem f_t132 : tySize Tryz.prog 132 = some 1 ∧ tyBytes Tryz.prog 132 = some 8 ∧ tyAg Tryz.prog 132 = some false ∧ tyEl Tryz.prog 132 = none ∧ tyInt Tryz.prog 132 = none ∧ tyStr Tryz.prog 132 = false ∧ tyBool Tryz.prog 132 = false ∧ tyArr Tryz.prog 132 = none ∧ tyArrA Tryz.prog 132 = none ∧ tyInts Tryz.prog 132 = none ∧ tyPlaces Tryz.prog 132 = none ∧ zeroLs Tryz.prog 132 = some (false, [D.raw (Value.pointer none)]) ∧ Program.concrete Tryz.prog 132 = true := by and_intros <;> kernel_rfl
@[go_sem] theorem f_t137 : tySize Tryz.prog 137 = some 2 ∧ tyBytes Tryz.prog 137 = some 32 ∧ tyAg Tryz.prog 137 = some true ∧ tyEl Tryz.prog 137 = none ∧ tyInt Tryz.prog 137 = none ∧ tyStr Tryz.prog 137 = false ∧ tyBool Tryz.prog 137 = false ∧ tyArr Tryz.prog 137 = none ∧ tyArrA Tryz.prog 137 = none ∧ tyInts Tryz.prog 137 = none ∧ tyPlaces Tryz.prog 137 = some [(0, 1), (1, 1)] ∧ zeroLs Tryz.prog 137 = some (true, [D.raw (Value.slice none 0 0), D.raw (Value.int IntKind.i64 (0))]) ∧ Program.concrete Tryz.prog 137 = true := by and_intros <;> kernel_rfl
@[go_sem] theorem f_t146 : tySize Tryz.prog 146 = some 3 ∧ tyBytes Tryz.prog 146 = some 24 ∧ tyAg Tryz.prog 146 = some true ∧ tyEl Tryz.prog 146 = none ∧ tyInt Tryz.prog 146 = none ∧ tyStr Tryz.prog 146 = false ∧ tyBool Tryz.prog 146 = false ∧ tyArr Tryz.prog 146 = none ∧ tyArrA Tryz.prog 146 = none ∧ tyInts Tryz.prog 146 = some 3 ∧ tyPlaces Tryz.prog 146 = some [(0, 1), (1, 1), (2, 1)] ∧ zeroLs Tryz.prog 146 = some (true, [D.raw (Value.int IntKind.i64 (0)), D.raw (Value.int IntKind.i64 (0)), D.raw (Value.int IntKind.i64 (0))]) ∧ Program.concrete Tryz.prog 146 = true := by and_intros <;> kernel_rfl
@[go_sem] theorem f_t148 : tySize Tryz.prog 148 = some 3 ∧ tyBytes Tryz.prog 148 = some 48 ∧ tyAg Tryz.prog 148 = some true ∧ tyEl Tryz.prog 148 = none ∧ tyInt Tryz.prog 148 = none ∧ tyStr Tryz.prog 148 = false ∧ tyBool Tryz.prog 148 = false ∧ tyArr Tryz.prog 148 = some (3, 1) ∧ tyArrA Tryz.prog 148 = some (3, 1, false) ∧ tyInts Tryz.prog 148 = none ∧ tyPlaces Tryz.prog 148 = some [(0, 1), (1, 1), (2, 1)] ∧ zeroLs Tryz.prog 148 = some (true, [D.raw (Value.string (ByteArray.mk (List.toArray []))), D.raw (Value.string (ByteArray.mk (List.toArray []))), D.raw (Value.string (ByteArray.mk (List.toArray [])))]) ∧ Program.concrete Tryz.prog 148 = true := by and_intros <;> kernel_rfl
@[go_sem] theorem f_t162 : tySize Tryz.prog 162 = some 1 ∧ tyBytes Tryz.prog 162 = some 8 ∧ tyAg Tryz.prog 162 = some false ∧ tyEl Tryz.prog 162 = none ∧ tyInt Tryz.prog 162 = none ∧ tyStr Tryz.prog 162 = false ∧ tyBool Tryz.prog 162 = false ∧ tyArr Tryz.prog 162 = none ∧ tyArrA Tryz.prog 162 = none ∧ tyInts Tryz.prog 162 = none ∧ tyPlaces Tryz.prog 162 = none ∧ zeroLs Tryz.prog 162 = some (false, [D.raw Value.nilFunc]) ∧ Program.concrete Tryz.prog 162 = true := by and_intros <;> kernel_rfl
@[go_sem] theorem f_t163 : tySize Tryz.prog 163 = some 1 ∧ tyBytes Tryz.prog 163 = some 8 ∧ tyAg Tryz.prog 163 = some false ∧ tyEl Tryz.prog 163 = none ∧ tyInt Tryz.prog 163 = none ∧ tyStr Tryz.prog 163 = false ∧ tyBool Tryz.prog 163 = false ∧ tyArr Tryz.prog 163 = none ∧ tyArrA Tryz.prog 163 = none ∧ tyInts Tryz.prog 163 = none ∧ tyPlaces Tryz.prog 163 = none ∧ zeroLs Tryz.prog 163 = some (false, [D.raw Value.nilFunc]) ∧ Program.concrete Tryz.prog 163 = true := by and_intros <;> kernel_rfl
@[go_sem] theorem f_t166 : tySize Tryz.prog 166 = some 1 ∧ tyBytes Tryz.prog 166 = some 16 ∧ tyAg Tryz.prog 166 = some false ∧ tyEl Tryz.prog 166 = none ∧ tyInt Tryz.prog 166 = none ∧ tyStr Tryz.prog 166 = false ∧ tyBool Tryz.prog 166 = false ∧ tyArr Tryz.prog 166 = none ∧ tyArrA Tryz.prog 166 = none ∧ tyInts Tryz.prog 166 = none ∧ tyPlaces Tryz.prog 166 = none ∧ zeroLs Tryz.prog 166 = some (false, [D.raw Value.nilIface]) ∧ Program.concrete Tryz.prog 166 = false := by and_intros <;> kernel_rfl
@[go_sem] theorem f_t170 : tySize Tryz.prog 170 = some 1 ∧ tyBytes Tryz.prog 170 = some 8 ∧ tyAg Tryz.prog 170 = some false ∧ tyEl Tryz.prog 170 = none ∧ tyInt Tryz.prog 170 = none ∧ tyStr Tryz.prog 170 = false ∧ tyBool Tryz.prog 170 = false ∧ tyArr Tryz.prog 170 = none ∧ tyArrA Tryz.prog 170 = none ∧ tyInts Tryz.prog 170 = none ∧ tyPlaces Tryz.prog 170 = none ∧ zeroLs Tryz.prog 170 = some (false, [D.raw (Value.pointer none)]) ∧ Program.concrete Tryz.prog 170 = true := by and_intros <;> kernel_rfl
@[go_sem] theorem f_t172 : tySize Tryz.prog 172 = some 1 ∧ tyBytes Tryz.prog 172 = some 8 ∧ tyAg Tryz.prog 172 = some true ∧ tyEl Tryz.prog 172 = none ∧ tyInt Tryz.prog 172 = none ∧ tyStr Tryz.prog 172 = false ∧ tyBool Tryz.prog 172 = false ∧ tyArr Tryz.prog 172 = none ∧ tyArrA Tryz.prog 172 = none ∧ tyInts Tryz.prog 172 = some 1 ∧ tyPlaces Tryz.prog 172 = some [(0, 1)] ∧ zeroLs Tryz.prog 172 = some (true, [D.raw (Value.int IntKind.i64 (0))]) ∧ Program.concrete Tryz.prog 172 = true := by and_intros <;> kernel_rfl
@[go_sem] theorem f_t195 : tySize Tryz.prog 195 = some 1 ∧ tyBytes Tryz.prog 195 = some 8 ∧ tyAg Tryz.prog 195 = some false ∧ tyEl Tryz.prog 195 = none ∧ tyInt Tryz.prog 195 = none ∧ tyStr Tryz.prog 195 = false ∧ tyBool Tryz.prog 195 = false ∧ tyArr Tryz.prog 195 = none ∧ tyArrA Tryz.prog 195 = none ∧ tyInts Tryz.prog 195 = none ∧ tyPlaces Tryz.prog 195 = none ∧ zeroLs Tryz.prog 195 = some (false, [D.raw Value.nilFunc]) ∧ Program.concrete Tryz.prog 195 = true := by and_intros <;> kernel_rfl
@[go_sem] theorem f_t197 : tySize Tryz.prog 197 = some 1 ∧ tyBytes Tryz.prog 197 = some 8 ∧ tyAg Tryz.prog 197 = some false ∧ tyEl Tryz.prog 197 = none ∧ tyInt Tryz.prog 197 = none ∧ tyStr Tryz.prog 197 = false ∧ tyBool Tryz.prog 197 = false ∧ tyArr Tryz.prog 197 = none ∧ tyArrA Tryz.prog 197 = none ∧ tyInts Tryz.prog 197 = none ∧ tyPlaces Tryz.prog 197 = none ∧ zeroLs Tryz.prog 197 = some (false, [D.raw Value.nilFunc]) ∧ Program.concrete Tryz.prog 197 = true := by and_intros <;> kernel_rfl
@[go_sem] theorem f_t198 : tySize Tryz.prog 198 = some 1 ∧ tyBytes Tryz.prog 198 = some 8 ∧ tyAg Tryz.prog 198 = some false ∧ tyEl Tryz.prog 198 = none ∧ tyInt Tryz.prog 198 = none ∧ tyStr Tryz.prog 198 = false ∧ tyBool Tryz.prog 198 = false ∧ tyArr Tryz.prog 198 = none ∧ tyArrA Tryz.prog 198 = none ∧ tyInts Tryz.prog 198 = none ∧ tyPlaces Tryz.prog 198 = none ∧ zeroLs Tryz.prog 198 = some (false, [D.raw Value.nilFunc]) ∧ Program.concrete Tryz.prog 198 = true := by and_intros <;> kernel_rfl
@[go_sem] theorem f_t199 : tySize Tryz.prog 199 = some 1 ∧ tyBytes Tryz.prog 199 = some 8 ∧ tyAg Tryz.prog 199 = some false ∧ tyEl Tryz.prog 199 = none ∧ tyInt Tryz.prog 199 = none ∧ tyStr Tryz.prog 199 = false ∧ tyBool Tryz.prog 199 = false ∧ tyArr Tryz.prog 199 = none ∧ tyArrA Tryz.prog 199 = none ∧ tyInts Tryz.prog 199 = none ∧ tyPlaces Tryz.prog 199 = none ∧ zeroLs Tryz.prog 199 = some (false, [D.raw (Value.pointer none)]) ∧ Program.concrete Tryz.prog 199 = true := by and_intros <;> kernel_rfl
@[go_sem] theorem f_t200 : tySize Tryz.prog 200 = some 1 ∧ tyBytes Tryz.prog 200 = some 8 ∧ tyAg Tryz.prog 200 = some false ∧ tyEl Tryz.prog 200 = none ∧ tyInt Tryz.prog 200 = some IntKind.u64 ∧ tyStr Tryz.prog 200 = false ∧ tyBool Tryz.prog 200 = false ∧ tyArr Tryz.prog 200 = none ∧ tyArrA Tryz.prog 200 = none ∧ tyInts Tryz.prog 200 = none ∧ tyPlaces Tryz.prog 200 = none ∧ zeroLs Tryz.prog 200 = some (false, [D.raw (Value.int IntKind.u64 (0))]) ∧ Program.concrete Tryz.prog 200 = true := by and_intros <;> kernel_rfl
@[go_sem] theorem f_t201 : tySize Tryz.prog 201 = some 1 ∧ tyBytes Tryz.prog 201 = some 8 ∧ tyAg Tryz.prog 201 = some false ∧ tyEl Tryz.prog 201 = none ∧ tyInt Tryz.prog 201 = none ∧ tyStr Tryz.prog 201 = false ∧ tyBool Tryz.prog 201 = false ∧ tyArr Tryz.prog 201 = none ∧ tyArrA Tryz.prog 201 = none ∧ tyInts Tryz.prog 201 = none ∧ tyPlaces Tryz.prog 201 = none ∧ zeroLs Tryz.prog 201 = some (false, [D.raw (Value.pointer none)]) ∧ Program.concrete Tryz.prog 201 = true := by and_intros <;> kernel_rfl
@[go_sem] theorem f_t206 : tySize Tryz.prog 206 = some 1 ∧ tyBytes Tryz.prog 206 = some 8 ∧ tyAg Tryz.prog 206 = some false ∧ tyEl Tryz.prog 206 = none ∧ tyInt Tryz.prog 206 = none ∧ tyStr Tryz.prog 206 = false ∧ tyBool Tryz.prog 206 = false ∧ tyArr Tryz.prog 206 = none ∧ tyArrA Tryz.prog 206 = none ∧ tyInts Tryz.prog 206 = none ∧ tyPlaces Tryz.prog 206 = none ∧ zeroLs Tryz.prog 206 = some (false, [D.raw Value.nilFunc]) ∧ Program.concrete Tryz.prog 206 = true := by and_intros <;> kernel_rfl
@[go_sem] theorem f_t207 : tySize Tryz.prog 207 = some 1 ∧ tyBytes Tryz.prog 207 = some 8 ∧ tyAg Tryz.prog 207 = some false ∧ tyEl Tryz.prog 207 = none ∧ tyInt Tryz.prog 207 = none ∧ tyStr Tryz.prog 207 = false ∧ tyBool Tryz.prog 207 = false ∧ tyArr Tryz.prog 207 = none ∧ tyArrA Tryz.prog 207 = none ∧ tyInts Tryz.prog 207 = none ∧ tyPlaces Tryz.prog 207 = none ∧ zeroLs Tryz.prog 207 = some (false, [D.raw Value.nilFunc]) ∧ Program.concrete Tryz.prog 207 = true := by and_intros <;> kernel_rfl
@[go_sem] theorem f_t209 : tySize Tryz.prog 209 = some 3 ∧ tyBytes Tryz.prog 209 = some 24 ∧ tyAg Tryz.prog 209 = some true ∧ tyEl Tryz.prog 209 = none ∧ tyInt Tryz.prog 209 = none ∧ tyStr Tryz.prog 209 = false ∧ tyBool Tryz.prog 209 = false ∧ tyArr Tryz.prog 209 = some (3, 1) ∧ tyArrA Tryz.prog 209 = some (3, 1, false) ∧ tyInts Tryz.prog 209 = none ∧ tyPlaces Tryz.prog 209 = some [(0, 1), (1, 1), (2, 1)] ∧ zeroLs Tryz.prog 209 = some (true, [D.raw (Value.int IntKind.i64 (0)), D.raw (Value.int IntKind.i64 (0)), D.raw (Value.int IntKind.i64 (0))]) ∧ Program.concrete Tryz.prog 209 = true := by and_intros <;> kernel_rfl
@[go_sem] theorem f_t230 : tySize Tryz.prog 230 = some 1 ∧ tyBytes Tryz.prog 230 = some 8 ∧ tyAg Tryz.prog 230 = some false ∧ tyEl Tryz.prog 230 = none ∧ tyInt Tryz.prog 230 = none ∧ tyStr Tryz.prog 230 = false ∧ tyBool Tryz.prog 230 = false ∧ tyArr Tryz.prog 230 = none ∧ tyArrA Tryz.prog 230 = none ∧ tyInts Tryz.prog 230 = none ∧ tyPlaces Tryz.prog 230 = none ∧ zeroLs Tryz.prog 230 = some (false, [D.raw Value.nilFunc]) ∧ Program.concrete Tryz.prog 230 = true := by and_intros <;> kernel_rfl
@[go_sem] theorem f_t236 : tySize Tryz.prog 236 = some 256 ∧ tyBytes Tryz.prog 236 = some 256 ∧ tyAg Tryz.prog 236 = some true ∧ tyEl Tryz.prog 236 = none ∧ tyInt Tryz.prog 236 = none ∧ tyStr Tryz.prog 236 = false ∧ tyBool Tryz.prog 236 = false ∧ tyArr Tryz.prog 236 = some (256, 1) ∧ tyArrA Tryz.prog 236 = some (256, 1, false) ∧ tyInts Tryz.prog 236 = none ∧ Program.concrete Tryz.prog 236 = true := by and_intros <;> kernel_rfl
@[go_sem] theorem f_t240 : tySize Tryz.prog 240 = some 1 ∧ tyBytes Tryz.prog 240 = some 8 ∧ tyAg Tryz.prog 240 = some false ∧ tyEl Tryz.prog 240 = none ∧ tyInt Tryz.prog 240 = none ∧ tyStr Tryz.prog 240 = false ∧ tyBool Tryz.prog 240 = false ∧ tyArr Tryz.prog 240 = none ∧ tyArrA Tryz.prog 240 = none ∧ tyInts Tryz.prog 240 = none ∧ tyPlaces Tryz.prog 240 = none ∧ zeroLs Tryz.prog 240 = some (false, [D.raw (Value.pointer none)]) ∧ Program.concrete Tryz.prog 240 = true := by and_intros <;> kernel_rfl
@[go_sem] theorem f_t245 : tySize Tryz.prog 245 = some 1 ∧ tyBytes Tryz.prog 245 = some 8 ∧ tyAg Tryz.prog 245 = some false ∧ tyEl Tryz.prog 245 = none ∧ tyInt Tryz.prog 245 = some IntKind.u64 ∧ tyStr Tryz.prog 245 = false ∧ tyBool Tryz.prog 245 = false ∧ tyArr Tryz.prog 245 = none ∧ tyArrA Tryz.prog 245 = none ∧ tyInts Tryz.prog 245 = none ∧ tyPlaces Tryz.prog 245 = none ∧ zeroLs Tryz.prog 245 = some (false, [D.raw (Value.int IntKind.u64 (0))]) ∧ Program.concrete Tryz.prog 245 = true := by and_intros <;> kernel_rfl
@[go_sem] theorem f_t250 : tySize Tryz.prog 250 = some 1 ∧ tyBytes Tryz.prog 250 = some 8 ∧ tyAg Tryz.prog 250 = some false ∧ tyEl Tryz.prog 250 = none ∧ tyInt Tryz.prog 250 = none ∧ tyStr Tryz.prog 250 = false ∧ tyBool Tryz.prog 250 = false ∧ tyArr Tryz.prog 250 = none ∧ tyArrA Tryz.prog 250 = none ∧ tyInts Tryz.prog 250 = none ∧ tyPlaces Tryz.prog 250 = none ∧ zeroLs Tryz.prog 250 = some (false, [D.raw (Value.pointer none)]) ∧ Program.concrete Tryz.prog 250 = true := by and_intros <;> kernel_rfl
@[go_sem] theorem f_t258 : tySize Tryz.prog 258 = some 1 ∧ tyBytes Tryz.prog 258 = some 4 ∧ tyAg Tryz.prog 258 = some false ∧ tyEl Tryz.prog 258 = none ∧ tyInt Tryz.prog 258 = some IntKind.u32 ∧ tyStr Tryz.prog 258 = false ∧ tyBool Tryz.prog 258 = false ∧ tyArr Tryz.prog 258 = none ∧ tyArrA Tryz.prog 258 = none ∧ tyInts Tryz.prog 258 = none ∧ tyPlaces Tryz.prog 258 = none ∧ zeroLs Tryz.prog 258 = some (false, [D.raw (Value.int IntKind.u32 (0))]) ∧ Program.concrete Tryz.prog 258 = true := by and_intros <;> kernel_rfl
@[go_sem] theorem f_t272 : tySize Tryz.prog 272 = some 20 ∧ tyBytes Tryz.prog 272 = some 160 ∧ tyAg Tryz.prog 272 = some true ∧ tyEl Tryz.prog 272 = none ∧ tyInt Tryz.prog 272 = none ∧ tyStr Tryz.prog 272 = false ∧ tyBool Tryz.prog 272 = false ∧ tyArr Tryz.prog 272 = some (20, 1) ∧ tyArrA Tryz.prog 272 = some (20, 1, false) ∧ tyInts Tryz.prog 272 = none ∧ tyPlaces Tryz.prog 272 = some [(0, 1), (1, 1), (2, 1), (3, 1), (4, 1), (5, 1), (6, 1), (7, 1), (8, 1), (9, 1), (10, 1), (11, 1), (12, 1), (13, 1), (14, 1), (15, 1), (16, 1), (17, 1), (18, 1), (19, 1)] ∧ Program.concrete Tryz.prog 272 = true := by and_intros <;> kernel_rfl
@[go_sem] theorem f_t276 : tySize Tryz.prog 276 = some 256 ∧ tyBytes Tryz.prog 276 = some 256 ∧ tyAg Tryz.prog 276 = some true ∧ tyEl Tryz.prog 276 = none ∧ tyInt Tryz.prog 276 = none ∧ tyStr Tryz.prog 276 = false ∧ tyBool Tryz.prog 276 = false ∧ tyArr Tryz.prog 276 = some (256, 1) ∧ tyArrA Tryz.prog 276 = some (256, 1, false) ∧ tyInts Tryz.prog 276 = none ∧ Program.concrete Tryz.prog 276 = true := by and_intros <;> kernel_rfl
@[go_sem] theorem f_t278 : tySize Tryz.prog 278 = some 2 ∧ tyBytes Tryz.prog 278 = some 2 ∧ tyAg Tryz.prog 278 = some true ∧ tyEl Tryz.prog 278 = none ∧ tyInt Tryz.prog 278 = none ∧ tyStr Tryz.prog 278 = false ∧ tyBool Tryz.prog 278 = false ∧ tyArr Tryz.prog 278 = none ∧ tyArrA Tryz.prog 278 = none ∧ tyInts Tryz.prog 278 = some 2 ∧ tyPlaces Tryz.prog 278 = some [(0, 1), (1, 1)] ∧ zeroLs Tryz.prog 278 = some (true, [D.raw (Value.int IntKind.u8 (0)), D.raw (Value.int IntKind.u8 (0))]) ∧ Program.concrete Tryz.prog 278 = true := by and_intros <;> kernel_rfl
@[go_sem] theorem f_t279 : tySize Tryz.prog 279 = some 32 ∧ tyBytes Tryz.prog 279 = some 32 ∧ tyAg Tryz.prog 279 = some true ∧ tyEl Tryz.prog 279 = none ∧ tyInt Tryz.prog 279 = none ∧ tyStr Tryz.prog 279 = false ∧ tyBool Tryz.prog 279 = false ∧ tyArr Tryz.prog 279 = some (16, 2) ∧ tyArrA Tryz.prog 279 = some (16, 2, true) ∧ tyInts Tryz.prog 279 = none ∧ tyPlaces Tryz.prog 279 = some [(0, 2), (2, 2), (4, 2), (6, 2), (8, 2), (10, 2), (12, 2), (14, 2), (16, 2), (18, 2), (20, 2), (22, 2), (24, 2), (26, 2), (28, 2), (30, 2)] ∧ Program.concrete Tryz.prog 279 = true := by and_intros <;> kernel_rfl
@[go_sem] theorem f_t281 : tySize Tryz.prog 281 = some 32 ∧ tyBytes Tryz.prog 281 = some 32 ∧ tyAg Tryz.prog 281 = some true ∧ tyEl Tryz.prog 281 = none ∧ tyInt Tryz.prog 281 = none ∧ tyStr Tryz.prog 281 = false ∧ tyBool Tryz.prog 281 = false ∧ tyArr Tryz.prog 281 = some (32, 1) ∧ tyArrA Tryz.prog 281 = some (32, 1, false) ∧ tyInts Tryz.prog 281 = none ∧ tyPlaces Tryz.prog 281 = some [(0, 1), (1, 1), (2, 1), (3, 1), (4, 1), (5, 1), (6, 1), (7, 1), (8, 1), (9, 1), (10, 1), (11, 1), (12, 1), (13, 1), (14, 1), (15, 1), (16, 1), (17, 1), (18, 1), (19, 1), (20, 1), (21, 1), (22, 1), (23, 1), (24, 1), (25, 1), (26, 1), (27, 1), (28, 1), (29, 1), (30, 1), (31, 1)] ∧ Program.concrete Tryz.prog 281 = true := by and_intros <;> kernel_rfl
@[go_sem] theorem f_t282 : tySize Tryz.prog 282 = some 64 ∧ tyBytes Tryz.prog 282 = some 64 ∧ tyAg Tryz.prog 282 = some true ∧ tyEl Tryz.prog 282 = none ∧ tyInt Tryz.prog 282 = none ∧ tyStr Tryz.prog 282 = false ∧ tyBool Tryz.prog 282 = false ∧ tyArr Tryz.prog 282 = some (64, 1) ∧ tyArrA Tryz.prog 282 = some (64, 1, false) ∧ tyInts Tryz.prog 282 = none ∧ Program.concrete Tryz.prog 282 = true := by and_intros <;> kernel_rfl
@[go_sem] theorem f_x_tyPtr : tyPtr Tryz.prog 86 = true := by kernel_rfl
@[go_sem] theorem f_x_tyFld : tyFld Tryz.prog 25 0 = some (0, 1) ∧ tyFld Tryz.prog 25 1 = some (1, 1) ∧ tyFld Tryz.prog 31 0 = some (0, 1) ∧ tyFld Tryz.prog 31 1 = some (1, 1) ∧ tyFld Tryz.prog 34 0 = some (0, 1) ∧ tyFld Tryz.prog 34 1 = some (1, 1) ∧ tyFld Tryz.prog 34 2 = some (2, 1) ∧ tyFld Tryz.prog 48 0 = some (0, 1) ∧ tyFld Tryz.prog 48 1 = some (1, 1) ∧ tyFld Tryz.prog 68 0 = some (0, 1) ∧ tyFld Tryz.prog 68 1 = some (1, 1) ∧ tyFld Tryz.prog 70 0 = some (0, 1) ∧ tyFld Tryz.prog 70 1 = some (1, 1) ∧ tyFld Tryz.prog 70 2 = some (2, 1) ∧ tyFld Tryz.prog 88 0 = some (0, 1) ∧ tyFld Tryz.prog 88 1 = some (1, 1) ∧ tyFld Tryz.prog 90 0 = some (0, 2) ∧ tyFld Tryz.prog 96 0 = some (0, 1) ∧ tyFld Tryz.prog 96 1 = some (1, 1) ∧ tyFld Tryz.prog 105 2 = some (2, 1) ∧ tyFld Tryz.prog 105 3 = some (3, 1) ∧ tyFld Tryz.prog 107 0 = some (0, 1) ∧ tyFld Tryz.prog 107 1 = some (1, 1) ∧ tyFld Tryz.prog 112 0 = some (0, 3) ∧ tyFld Tryz.prog 112 1 = some (3, 1) ∧ tyFld Tryz.prog 122 0 = some (0, 1) ∧ tyFld Tryz.prog 122 1 = some (1, 1) ∧ tyFld Tryz.prog 122 2 = some (2, 1) ∧ tyFld Tryz.prog 124 0 = some (0, 3) ∧ tyFld Tryz.prog 124 1 = some (3, 1) ∧ tyFld Tryz.prog 124 2 = some (4, 1) ∧ tyFld Tryz.prog 124 3 = some (5, 1) ∧ tyFld Tryz.prog 137 0 = some (0, 1) ∧ tyFld Tryz.prog 137 1 = some (1, 1) ∧ tyFld Tryz.prog 146 0 = some (0, 1) ∧ tyFld Tryz.prog 146 1 = some (1, 1) ∧ tyFld Tryz.prog 146 2 = some (2, 1) ∧ tyFld Tryz.prog 172 0 = some (0, 1) ∧ tyFld Tryz.prog 185 0 = some (0, 1) ∧ tyFld Tryz.prog 185 1 = some (1, 1) ∧ tyFld Tryz.prog 187 0 = some (0, 1) ∧ tyFld Tryz.prog 189 0 = some (0, 1) ∧ tyFld Tryz.prog 189 1 = some (1, 1) ∧ tyFld Tryz.prog 278 0 = some (0, 1) ∧ tyFld Tryz.prog 278 1 = some (1, 1) := by and_intros <;> kernel_rfl
@[go_sem] theorem f_x_canCall : canCall Tryz.prog 1 = false ∧ canCall Tryz.prog 13 = true ∧ canCall Tryz.prog 14 = true ∧ canCall Tryz.prog 15 = true ∧ canCall Tryz.prog 16 = true ∧ canCall Tryz.prog 17 = true ∧ canCall Tryz.prog 18 = true ∧ canCall Tryz.prog 19 = true ∧ canCall Tryz.prog 20 = true ∧ canCall Tryz.prog 21 = true ∧ canCall Tryz.prog 22 = true ∧ canCall Tryz.prog 23 = true ∧ canCall Tryz.prog 24 = true ∧ canCall Tryz.prog 25 = true ∧ canCall Tryz.prog 26 = true ∧ canCall Tryz.prog 27 = true ∧ canCall Tryz.prog 28 = true ∧ canCall Tryz.prog 29 = true ∧ canCall Tryz.prog 30 = true ∧ canCall Tryz.prog 31 = true ∧ canCall Tryz.prog 32 = true ∧ canCall Tryz.prog 33 = true ∧ canCall Tryz.prog 34 = true ∧ canCall Tryz.prog 35 = true ∧ canCall Tryz.prog 36 = true ∧ canCall Tryz.prog 37 = true ∧ canCall Tryz.prog 38 = true ∧ canCall Tryz.prog 39 = true ∧ canCall Tryz.prog 40 = true ∧ canCall Tryz.prog 41 = true ∧ canCall Tryz.prog 42 = true ∧ canCall Tryz.prog 43 = true ∧ canCall Tryz.prog 44 = true ∧ canCall Tryz.prog 45 = true ∧ canCall Tryz.prog 46 = true ∧ canCall Tryz.prog 47 = true ∧ canCall Tryz.prog 48 = true ∧ canCall Tryz.prog 49 = true ∧ canCall Tryz.prog 50 = true ∧ canCall Tryz.prog 51 = true ∧ canCall Tryz.prog 52 = true ∧ canCall Tryz.prog 53 = true ∧ canCall Tryz.prog 54 = true ∧ canCall Tryz.prog 55 = true ∧ canCall Tryz.prog 56 = true ∧ canCall Tryz.prog 57 = true ∧ canCall Tryz.prog 58 = true ∧ canCall Tryz.prog 59 = true ∧ canCall Tryz.prog 60 = true ∧ canCall Tryz.prog 61 = true ∧ canCall Tryz.prog 62 = true ∧ canCall Tryz.prog 63 = true ∧ canCall Tryz.prog 64 = true ∧ canCall Tryz.prog 65 = true ∧ canCall Tryz.prog 66 = true ∧ canCall Tryz.prog 67 = true ∧ canCall Tryz.prog 68 = true ∧ canCall Tryz.prog 69 = true ∧ canCall Tryz.prog 70 = true ∧ canCall Tryz.prog 71 = true ∧ canCall Tryz.prog 72 = true ∧ canCall Tryz.prog 73 = true ∧ canCall Tryz.prog 74 = true ∧ canCall Tryz.prog 75 = true ∧ canCall Tryz.prog 76 = true ∧ canCall Tryz.prog 77 = true ∧ canCall Tryz.prog 78 = true ∧ canCall Tryz.prog 79 = true ∧ canCall Tryz.prog 80 = true ∧ canCall Tryz.prog 81 = true ∧ canCall Tryz.prog 82 = true ∧ canCall Tryz.prog 83 = true ∧ canCall Tryz.prog 84 = true ∧ canCall Tryz.prog 85 = true ∧ canCall Tryz.prog 86 = true ∧ canCall Tryz.prog 87 = true ∧ canCall Tryz.prog 88 = true ∧ canCall Tryz.prog 89 = true ∧ canCall Tryz.prog 90 = true ∧ canCall Tryz.prog 91 = true ∧ canCall Tryz.prog 92 = true ∧ canCall Tryz.prog 93 = true ∧ canCall Tryz.prog 94 = true ∧ canCall Tryz.prog 95 = true ∧ canCall Tryz.prog 96 = true ∧ canCall Tryz.prog 97 = true ∧ canCall Tryz.prog 98 = true ∧ canCall Tryz.prog 99 = true ∧ canCall Tryz.prog 100 = true ∧ canCall Tryz.prog 101 = true ∧ canCall Tryz.prog 102 = true ∧ canCall Tryz.prog 103 = true ∧ canCall Tryz.prog 104 = true ∧ canCall Tryz.prog 105 = true ∧ canCall Tryz.prog 106 = true ∧ canCall Tryz.prog 107 = true ∧ canCall Tryz.prog 108 = true ∧ canCall Tryz.prog 109 = true ∧ canCall Tryz.prog 110 = true ∧ canCall Tryz.prog 111 = true ∧ canCall Tryz.prog 112 = true ∧ canCall Tryz.prog 113 = true ∧ canCall Tryz.prog 114 = true ∧ canCall Tryz.prog 115 = true ∧ canCall Tryz.prog 116 = true ∧ canCall Tryz.prog 117 = true ∧ canCall Tryz.prog 118 = true ∧ canCall Tryz.prog 119 = true ∧ canCall Tryz.prog 120 = true ∧ canCall Tryz.prog 121 = true ∧ canCall Tryz.prog 122 = true ∧ canCall Tryz.prog 123 = true ∧ canCall Tryz.prog 124 = true ∧ canCall Tryz.prog 125 = true ∧ canCall Tryz.prog 126 = true ∧ canCall Tryz.prog 127 = true ∧ canCall Tryz.prog 128 = true ∧ canCall Tryz.prog 129 = true ∧ canCall Tryz.prog 130 = true ∧ canCall Tryz.prog 131 = true ∧ canCall Tryz.prog 132 = true ∧ canCall Tryz.prog 133 = true ∧ canCall Tryz.prog 134 = true ∧ canCall Tryz.prog 135 = true ∧ canCall Tryz.prog 136 = true ∧ canCall Tryz.prog 137 = true ∧ canCall Tryz.prog 138 = true ∧ canCall Tryz.prog 139 = true ∧ canCall Tryz.prog 140 = true ∧ canCall Tryz.prog 141 = true ∧ canCall Tryz.prog 142 = true ∧ canCall Tryz.prog 143 = true ∧ canCall Tryz.prog 144 = true ∧ canCall Tryz.prog 146 = true ∧ canCall Tryz.prog 147 = true ∧ canCall Tryz.prog 148 = true ∧ canCall Tryz.prog 149 = true ∧ canCall Tryz.prog 150 = true ∧ canCall Tryz.prog 151 = true ∧ canCall Tryz.prog 152 = true ∧ canCall Tryz.prog 153 = true ∧ canCall Tryz.prog 154 = true ∧ canCall Tryz.prog 155 = true ∧ canCall Tryz.prog 156 = true ∧ canCall Tryz.prog 157 = true ∧ canCall Tryz.prog 158 = true ∧ canCall Tryz.prog 159 = true ∧ canCall Tryz.prog 160 = true ∧ canCall Tryz.prog 161 = true ∧ canCall Tryz.prog 162 = true ∧ canCall Tryz.prog 163 = true ∧ canCall Tryz.prog 164 = true ∧ canCall Tryz.prog 165 = true ∧ canCall Tryz.prog 166 = true ∧ canCall Tryz.prog 167 = true ∧ canCall Tryz.prog 168 = true ∧ canCall Tryz.prog 169 = true ∧ canCall Tryz.prog 170 = true ∧ canCall Tryz.prog 171 = true ∧ canCall Tryz.prog 172 = true ∧ canCall Tryz.prog 173 = true ∧ canCall Tryz.prog 174 = true ∧ canCall Tryz.prog 179 = false ∧ canCall Tryz.prog 180 = true ∧ canCall Tryz.prog 181 = true ∧ canCall Tryz.prog 182 = true ∧ canCall Tryz.prog 183 = true ∧ canCall Tryz.prog 184 = true ∧ canCall Tryz.prog 185 = true ∧ canCall Tryz.prog 186 = true ∧ canCall Tryz.prog 187 = true ∧ canCall Tryz.prog 188 = true ∧ canCall Tryz.prog 189 = true ∧ canCall Tryz.prog 190 = true ∧ canCall Tryz.prog 191 = true ∧ canCall Tryz.prog 192 = true ∧ canCall Tryz.prog 193 = true ∧ canCall Tryz.prog 194 = true ∧ canCall Tryz.prog 195 = true ∧ canCall Tryz.prog 196 = true ∧ canCall Tryz.prog 197 = false ∧ canCall Tryz.prog 198 = true ∧ canCall Tryz.prog 199 = true ∧ canCall Tryz.prog 200 = true ∧ canCall Tryz.prog 205 = true ∧ canCall Tryz.prog 206 = false ∧ canCall Tryz.prog 207 = true ∧ canCall Tryz.prog 208 = true ∧ canCall Tryz.prog 209 = true ∧ canCall Tryz.prog 210 = true ∧ canCall Tryz.prog 211 = true ∧ canCall Tryz.prog 212 = true ∧ canCall Tryz.prog 213 = true ∧ canCall Tryz.prog 214 = true ∧ canCall Tryz.prog 215 = false ∧ canCall Tryz.prog 216 = true ∧ canCall Tryz.prog 218 = true ∧ canCall Tryz.prog 219 = true ∧ canCall Tryz.prog 220 = true ∧ canCall Tryz.prog 241 = true ∧ canCall Tryz.prog 246 = true := by and_intros <;> kernel_rfl
@[go_sem] theorem f_x_tyMap : tyMap Tryz.prog 9 = none ∧ tyMap Tryz.prog 221 = some (3, 29) ∧ tyMap Tryz.prog 222 = some (3, 34) := by and_intros <;> kernel_rfl
@[go_sem] theorem f_x_tyKey : tyKey Tryz.prog 3 = some 0 := by kernel_rfl
@[go_sem] theorem f_x_isIfc : isIfc Tryz.prog 172 = false ∧ isIfc Tryz.prog 185 = false ∧ isIfc Tryz.prog 187 = false ∧ isIfc Tryz.prog 189 = false := by and_intros <;> kernel_rfl
@[go_sem] theorem f_x_methOf : methOf Tryz.prog 9 "meterworks/card.made" = none ∧ methOf Tryz.prog 172 "meterworks/card.made" = none ∧ methOf Tryz.prog 185 "meterworks/card.made" = some 239 ∧ methOf Tryz.prog 187 "meterworks/card.made" = some 240 ∧ methOf Tryz.prog 189 "meterworks/card.made" = some 242 ∧ methOf Tryz.prog 284 "meterworks/card.made" = none := by and_intros <;> kernel_rfl
end Go.Mw
namespace Go.Proofs
open Go.Shelf
def Tryz.lays100_ren : Go.Shelf.Ren := ⟨fun | 100 => 106 | 207 => 147 | n => n, fun | 9 => 9 | 4 => 4 | 3 => 3 | n => n, fun | n => n⟩
theorem Tryz.lays100 : Go.Proofs.Lays.n100 Tryz.prog Tryz.lays100_ren where
 mixed := by kernel_rfl
 f100 := Tryz.func106.trans (congrArg some V169)
 f207 := Tryz.func147.trans (congrArg some V169)
 t3 := Tryz.underlying3
 a3 := Tryz.isAgg3
 z3 := Tryz.sizeOf3
 v3 := Tryz.zeroValue3
 t4 := Tryz.underlying4
 a4 := Tryz.isAgg4
 z4 := Tryz.sizeOf4
 v4 := Tryz.zeroValue4
 t9 := Tryz.underlying9
 a9 := Tryz.isAgg9
 z9 := Tryz.sizeOf9
 v9 := Tryz.zeroValue9
def Tryz.lays102_ren : Go.Shelf.Ren := ⟨fun | 102 => 108 | 209 => 149 | 207 => 147 | n => n, fun | 9 => 9 | 4 => 4 | 3 => 3 | n => n, fun | n => n⟩
theorem Tryz.lays102 : Go.Proofs.Lays.n102 Tryz.prog Tryz.lays102_ren where
 mixed := by kernel_rfl
 f102 := Tryz.func108.trans (congrArg some V169)
 f207 := Tryz.func147.trans (congrArg some V169)
 f209 := Tryz.func149.trans (congrArg some V169)
 t3 := Tryz.underlying3
 a3 := Tryz.isAgg3
 z3 := Tryz.sizeOf3
 v3 := Tryz.zeroValue3
 t4 := Tryz.underlying4
 a4 := Tryz.isAgg4
 z4 := Tryz.sizeOf4
 v4 := Tryz.zeroValue4
 t9 := Tryz.underlying9
 a9 := Tryz.isAgg9
 z9 := Tryz.sizeOf9
 v9 := Tryz.zeroValue9
def Tryz.lays105_ren : Go.Shelf.Ren := ⟨fun | 105 => 131 | 212 => 164 | 99 => 165 | 165 => 133 | 166 => 103 | 170 => 166 | 169 => 50 | 263 => 194 | 264 => 195 | 206 => 196 | 240 => 146 | 241 => 167 | 276 => 179 | 277 => 197 | n => n, fun | 9 => 9 | 3 => 3 | 4 => 4 | 20 => 20 | 0 => 0 | 46 => 200 | 109 => 232 | 5 => 5 | 72 => 88 | 76 => 167 | 51 => 258 | 146 => 262 | 53 => 245 | 148 => 264 | 70 => 86 | 37 => 53 | 75 => 166 | 127 => 170 | 164 => 250 | 80 => 97 | n => n, fun | n => n⟩
theorem Tryz.lays105 : Go.Proofs.Lays.n105 Tryz.prog Tryz.lays105_ren where
 mixed := by kernel_rfl
 f99 := Tryz.func165.trans (congrArg some V169)
 f105 := Tryz.func131.trans (congrArg some V169)
 f165 := Tryz.func133.trans (congrArg some V169)
 f166 := Tryz.func103.trans (congrArg some V169)
 f169 := Tryz.func50.trans (congrArg some V169)
 f170 := Tryz.func166.trans (congrArg some V169)
 f206 := Tryz.func196.trans (congrArg some V169)
 f212 := Tryz.func164.trans (congrArg some V169)
 f240 := Tryz.func146.trans (congrArg some V169)
 f241 := Tryz.func167.trans (congrArg some V169)
 f263 := Tryz.func194.trans (congrArg some V169)
 f264 := Tryz.func195.trans (congrArg some V169)
 f276 := Tryz.func179.trans (congrArg some V169)
 f277 := Tryz.func197.trans (congrArg some V169)
 t0 := Tryz.underlying0
 a0 := Tryz.isAgg0
 z0 := Tryz.sizeOf0
 v0 := Tryz.zeroValue0
 t3 := Tryz.underlying3
 a3 := Tryz.isAgg3
 z3 := Tryz.sizeOf3
 v3 := Tryz.zeroValue3
 t4 := Tryz.underlying4
 a4 := Tryz.isAgg4
 z4 := Tryz.sizeOf4
 v4 := Tryz.zeroValue4
 t5 := Tryz.underlying5
 a5 := Tryz.isAgg5
 z5 := Tryz.sizeOf5
 v5 := Tryz.zeroValue5
 t9 := Tryz.underlying9
 a9 := Tryz.isAgg9
 z9 := Tryz.sizeOf9
 v9 := Tryz.zeroValue9
 t20 := Tryz.underlying20
 a20 := Tryz.isAgg20
 z20 := Tryz.sizeOf20
 v20 := Tryz.zeroValue20
 t37 := Tryz.underlying53
 a37 := Tryz.isAgg53
 z37 := Tryz.sizeOf53
 v37 := Tryz.zeroValue53
 t46 := Tryz.underlying200
 a46 := Tryz.isAgg200
 z46 := Tryz.sizeOf200
 v46 := Tryz.zeroValue200
 t51 := Tryz.underlying258
 a51 := Tryz.isAgg258
 z51 := Tryz.sizeOf258
 v51 := Tryz.zeroValue258
 t53 := Tryz.underlying245
 a53 := Tryz.isAgg245
 z53 := Tryz.sizeOf245
 v53 := Tryz.zeroValue245
 t70 := Tryz.underlying86
 a70 := Tryz.isAgg86
 z70 := Tryz.sizeOf86
 v70 := Tryz.zeroValue86
 t72 := Tryz.underlying88
 a72 := Tryz.isAgg88
 z72 := Tryz.sizeOf88
 v72 := Tryz.zeroValue88
 t75 := Tryz.underlying166
 a75 := Tryz.isAgg166
 z75 := Tryz.sizeOf166
 v75 := Tryz.zeroValue166
 t76 := Tryz.underlying167
 a76 := Tryz.isAgg167
 z76 := Tryz.sizeOf167
 v76 := Tryz.zeroValue167
 t109 := Tryz.underlying232
 a109 := Tryz.isAgg232
 z109 := Tryz.sizeOf232
 v109 := Tryz.zeroValue232
 t127 := Tryz.underlying170
 a127 := Tryz.isAgg170
 z127 := Tryz.sizeOf170
 v127 := Tryz.zeroValue170
 t146 := Tryz.underlying262
 a146 := Tryz.isAgg262
 z146 := Tryz.sizeOf262
 v146 := Tryz.zeroValue262
 t148 := Tryz.underlying264
 a148 := Tryz.isAgg264
 z148 := Tryz.sizeOf264
 v148 := Tryz.zeroValue264
 t164 := Tryz.underlying250
 a164 := Tryz.isAgg250
 z164 := Tryz.sizeOf250
 v164 := Tryz.zeroValue250
def Tryz.lays125_ren : Go.Shelf.Ren := ⟨fun | 125 => 156 | 128 => 187 | 129 => 188 | n => n, fun | 46 => 200 | 3 => 3 | 51 => 258 | 53 => 245 | 4 => 4 | 5 => 5 | 9 => 9 | n => n, fun | n => n⟩
theorem Tryz.lays125 : Go.Proofs.Lays.n125 Tryz.prog Tryz.lays125_ren where
 mixed := by kernel_rfl
 f125 := Tryz.func156.trans (congrArg some V169)
 f128 := Tryz.func187.trans (congrArg some V169)
 f129 := Tryz.func188.trans (congrArg some V169)
 t3 := Tryz.underlying3
 a3 := Tryz.isAgg3
 z3 := Tryz.sizeOf3
 v3 := Tryz.zeroValue3
 t4 := Tryz.underlying4
 a4 := Tryz.isAgg4
 z4 := Tryz.sizeOf4
 v4 := Tryz.zeroValue4
 t5 := Tryz.underlying5
 a5 := Tryz.isAgg5
 z5 := Tryz.sizeOf5
 v5 := Tryz.zeroValue5
 t9 := Tryz.underlying9
 a9 := Tryz.isAgg9
 z9 := Tryz.sizeOf9
 v9 := Tryz.zeroValue9
 t46 := Tryz.underlying200
 a46 := Tryz.isAgg200
 z46 := Tryz.sizeOf200
 v46 := Tryz.zeroValue200
 t51 := Tryz.underlying258
 a51 := Tryz.isAgg258
 z51 := Tryz.sizeOf258
 v51 := Tryz.zeroValue258
 t53 := Tryz.underlying245
 a53 := Tryz.isAgg245
 z53 := Tryz.sizeOf245
 v53 := Tryz.zeroValue245
def Tryz.lays145_ren : Go.Shelf.Ren := ⟨fun | 145 => 150 | 220 => 183 | 219 => 207 | 217 => 214 | 225 => 215 | 224 => 216 | 267 => 217 | 266 => 221 | 314 => 222 | n => n, fun | 9 => 9 | 4 => 4 | 59 => 218 | 3 => 3 | 5 => 5 | 46 => 200 | 146 => 262 | 51 => 258 | n => n, fun | 1 => 2 | n => n⟩
theorem Tryz.lays145 : Go.Proofs.LaysM.n145 Tryz.prog Tryz.lays145_ren where
 mixed := by kernel_rfl
 f145 := Tryz.func150.trans (congrArg some V169)
 f217 := Tryz.func214.trans (congrArg some V169)
 f219 := Tryz.func207.trans (congrArg some V169)
 f220 := Tryz.func183.trans (congrArg some V169)
 f224 := Tryz.func216.trans (congrArg some V169)
 f225 := Tryz.func215.trans (congrArg some V169)
 f266 := Tryz.func221.trans (congrArg some V169)
 f267 := Tryz.func217.trans (congrArg some V169)
 f314 := Tryz.func222.trans (congrArg some V169)
 t3 := Tryz.underlying3
 a3 := Tryz.isAgg3
 z3 := Tryz.sizeOf3
 v3 := Tryz.zeroValue3
 t4 := Tryz.underlying4
 a4 := Tryz.isAgg4
 z4 := Tryz.sizeOf4
 v4 := Tryz.zeroValue4
 t5 := Tryz.underlying5
 a5 := Tryz.isAgg5
 z5 := Tryz.sizeOf5
 v5 := Tryz.zeroValue5
 t9 := Tryz.underlying9
 a9 := Tryz.isAgg9
 z9 := Tryz.sizeOf9
 v9 := Tryz.zeroValue9
 t46 := Tryz.underlying200
 a46 := Tryz.isAgg200
 z46 := Tryz.sizeOf200
 v46 := Tryz.zeroValue200
 t51 := Tryz.underlying258
 a51 := Tryz.isAgg258
 z51 := Tryz.sizeOf258
 v51 := Tryz.zeroValue258
 t59 := Tryz.underlying218
 a59 := Tryz.isAgg218
 z59 := Tryz.sizeOf218
 v59 := Tryz.zeroValue218
 t146 := Tryz.underlying262
 a146 := Tryz.isAgg262
 z146 := Tryz.sizeOf262
 v146 := Tryz.zeroValue262
 g1 := by kernel_rfl
 i3 := by kernel_rfl
 i4 := by kernel_rfl
 i5 := by kernel_rfl
 i9 := by kernel_rfl
 i46 := by kernel_rfl
 i51 := by kernel_rfl
 i59 := by kernel_rfl
 i146 := by kernel_rfl
 m1 := by kernel_rfl
 s1_3 := fun w h => Go.Proofs.cell_of_shapedOpen_int (zero := #[.int .i64 0]) (t := 3) h (of_decide_eq_true V169) V169 rfl V169 V169 Tryz.underlying3
def Tryz.lays146_ren : Go.Shelf.Ren := ⟨fun | 146 => 107 | 221 => 148 | 268 => 180 | 138 => 181 | 143 => 182 | 195 => 205 | 197 => 199 | 218 => 206 | 219 => 207 | 260 => 210 | 217 => 214 | 225 => 215 | 224 => 216 | 267 => 217 | 266 => 221 | 314 => 222 | n => n, fun | 9 => 9 | 31 => 92 | 3 => 3 | 4 => 4 | 0 => 0 | 105 => 268 | 21 => 21 | 5 => 5 | 46 => 200 | 119 => 276 | 139 => 279 | 138 => 278 | 146 => 262 | 51 => 258 | n => n, fun | 1 => 2 | 3 => 3 | 4 => 4 | n => n⟩
theorem Tryz.lays146 : Go.Proofs.LaysM.n146 Tryz.prog Tryz.lays146_ren where
 mixed := by kernel_rfl
 f138 := Tryz.func181.trans (congrArg some V169)
 f143 := Tryz.func182.trans (congrArg some V169)
 f146 := Tryz.func107.trans (congrArg some V169)
 f195 := Tryz.func205.trans (congrArg some V169)
 f197 := Tryz.func199.trans (congrArg some V169)
 f217 := Tryz.func214.trans (congrArg some V169)
 f218 := Tryz.func206.trans (congrArg some V169)
 f219 := Tryz.func207.trans (congrArg some V169)
 f221 := Tryz.func148.trans (congrArg some V169)
 f224 := Tryz.func216.trans (congrArg some V169)
 f225 := Tryz.func215.trans (congrArg some V169)
 f260 := Tryz.func210.trans (congrArg some V169)
 f266 := Tryz.func221.trans (congrArg some V169)
 f267 := Tryz.func217.trans (congrArg some V169)
 f268 := Tryz.func180.trans (congrArg some V169)
 f314 := Tryz.func222.trans (congrArg some V169)
 t0 := Tryz.underlying0
 a0 := Tryz.isAgg0
 z0 := Tryz.sizeOf0
 v0 := Tryz.zeroValue0
 t3 := Tryz.underlying3
 a3 := Tryz.isAgg3
 z3 := Tryz.sizeOf3
 v3 := Tryz.zeroValue3
 t4 := Tryz.underlying4
 a4 := Tryz.isAgg4
 z4 := Tryz.sizeOf4
 v4 := Tryz.zeroValue4
 t5 := Tryz.underlying5
 a5 := Tryz.isAgg5
 z5 := Tryz.sizeOf5
 v5 := Tryz.zeroValue5
 t9 := Tryz.underlying9
 a9 := Tryz.isAgg9
 z9 := Tryz.sizeOf9
 v9 := Tryz.zeroValue9
 t21 := Tryz.underlying21
 a21 := Tryz.isAgg21
 z21 := Tryz.sizeOf21
 v21 := Tryz.zeroValue21
 t31 := Tryz.underlying92
 a31 := Tryz.isAgg92
 z31 := Tryz.sizeOf92
 v31 := Tryz.zeroValue92
 t46 := Tryz.underlying200
 a46 := Tryz.isAgg200
 z46 := Tryz.sizeOf200
 v46 := Tryz.zeroValue200
 t51 := Tryz.underlying258
 a51 := Tryz.isAgg258
 z51 := Tryz.sizeOf258
 v51 := Tryz.zeroValue258
 t105 := Tryz.underlying268
 a105 := Tryz.isAgg268
 z105 := Tryz.sizeOf268
 v105 := Tryz.zeroValue268
 t119 := Tryz.underlying276
 a119 := Tryz.isAgg276
 z119 := Tryz.sizeOf276
 t138 := Tryz.underlying278
 a138 := Tryz.isAgg278
 z138 := Tryz.sizeOf278
 v138 := Tryz.zeroValue278
 t139 := Tryz.underlying279
 a139 := Tryz.isAgg279
 z139 := Tryz.sizeOf279
 v139 := Tryz.zeroValue279
 t146 := Tryz.underlying262
 a146 := Tryz.isAgg262
 z146 := Tryz.sizeOf262
 v146 := Tryz.zeroValue262
 g1 := by kernel_rfl
 g3 := by kernel_rfl
 g4 := by kernel_rfl
 i0 := by kernel_rfl
 i3 := by kernel_rfl
 i4 := by kernel_rfl
 i5 := by kernel_rfl
 i9 := by kernel_rfl
 i21 := by kernel_rfl
 i31 := by kernel_rfl
 i46 := by kernel_rfl
 i51 := by kernel_rfl
 i105 := by kernel_rfl
 i138 := by kernel_rfl
 i139 := by kernel_rfl
 i146 := by kernel_rfl
 m1 := by kernel_rfl
 s1_3 := fun w h => Go.Proofs.cell_of_shapedOpen_int (zero := #[.int .i64 0]) (t := 3) h (of_decide_eq_true V169) V169 rfl V169 V169 Tryz.underlying3
 m3 := by kernel_rfl
 m4 := by kernel_rfl
def Tryz.lays156_ren : Go.Shelf.Ren := ⟨fun | 156 => 84 | 165 => 133 | 166 => 103 | 169 => 50 | 240 => 146 | 241 => 167 | 276 => 179 | 277 => 197 | n => n, fun | 31 => 92 | 9 => 9 | 3 => 3 | 4 => 4 | 0 => 0 | 20 => 20 | 72 => 88 | 76 => 167 | 70 => 86 | 37 => 53 | 75 => 166 | 127 => 170 | 164 => 250 | 5 => 5 | 80 => 97 | n => n, fun | n => n⟩
theorem Tryz.lays156 : Go.Proofs.Lays.n156 Tryz.prog Tryz.lays156_ren where
 mixed := by kernel_rfl
 f156 := Tryz.func84.trans (congrArg some V169)
 f165 := Tryz.func133.trans (congrArg some V169)
 f166 := Tryz.func103.trans (congrArg some V169)
 f169 := Tryz.func50.trans (congrArg some V169)
 f240 := Tryz.func146.trans (congrArg some V169)
 f241 := Tryz.func167.trans (congrArg some V169)
 f276 := Tryz.func179.trans (congrArg some V169)
 f277 := Tryz.func197.trans (congrArg some V169)
 t0 := Tryz.underlying0
 a0 := Tryz.isAgg0
 z0 := Tryz.sizeOf0
 v0 := Tryz.zeroValue0
 t3 := Tryz.underlying3
 a3 := Tryz.isAgg3
 z3 := Tryz.sizeOf3
 v3 := Tryz.zeroValue3
 t4 := Tryz.underlying4
 a4 := Tryz.isAgg4
 z4 := Tryz.sizeOf4
 v4 := Tryz.zeroValue4
 t9 := Tryz.underlying9
 a9 := Tryz.isAgg9
 z9 := Tryz.sizeOf9
 v9 := Tryz.zeroValue9
 t20 := Tryz.underlying20
 a20 := Tryz.isAgg20
 z20 := Tryz.sizeOf20
 v20 := Tryz.zeroValue20
 t31 := Tryz.underlying92
 a31 := Tryz.isAgg92
 z31 := Tryz.sizeOf92
 v31 := Tryz.zeroValue92
 t37 := Tryz.underlying53
 a37 := Tryz.isAgg53
 z37 := Tryz.sizeOf53
 v37 := Tryz.zeroValue53
 t70 := Tryz.underlying86
 a70 := Tryz.isAgg86
 z70 := Tryz.sizeOf86
 v70 := Tryz.zeroValue86
 t72 := Tryz.underlying88
 a72 := Tryz.isAgg88
 z72 := Tryz.sizeOf88
 v72 := Tryz.zeroValue88
 t75 := Tryz.underlying166
 a75 := Tryz.isAgg166
 z75 := Tryz.sizeOf166
 v75 := Tryz.zeroValue166
 t76 := Tryz.underlying167
 a76 := Tryz.isAgg167
 z76 := Tryz.sizeOf167
 v76 := Tryz.zeroValue167
 t127 := Tryz.underlying170
 a127 := Tryz.isAgg170
 z127 := Tryz.sizeOf170
 v127 := Tryz.zeroValue170
 t164 := Tryz.underlying250
 a164 := Tryz.isAgg250
 z164 := Tryz.sizeOf250
 v164 := Tryz.zeroValue250
def Tryz.lays161_ren : Go.Shelf.Ren := ⟨fun | 161 => 136 | 231 => 168 | 227 => 169 | 233 => 170 | 235 => 171 | 228 => 198 | 197 => 199 | 151 => 200 | 260 => 210 | 152 => 211 | 137 => 219 | 119 => 220 | 224 => 216 | 225 => 215 | 217 => 214 | 266 => 221 | n => n, fun | 9 => 9 | 4 => 4 | 3 => 3 | 5 => 5 | 117 => 237 | 116 => 236 | 0 => 0 | 124 => 240 | 105 => 268 | 21 => 21 | 119 => 276 | 46 => 200 | 139 => 279 | 138 => 278 | n => n, fun | 3 => 3 | 4 => 4 | n => n⟩
theorem Tryz.lays161 : Go.Proofs.Lays.n161 Tryz.prog Tryz.lays161_ren where
 mixed := by kernel_rfl
 f119 := Tryz.func220.trans (congrArg some V169)
 f137 := Tryz.func219.trans (congrArg some V169)
 f151 := Tryz.func200.trans (congrArg some V169)
 f152 := Tryz.func211.trans (congrArg some V169)
 f161 := Tryz.func136.trans (congrArg some V169)
 f197 := Tryz.func199.trans (congrArg some V169)
 f217 := Tryz.func214.trans (congrArg some V169)
 f224 := Tryz.func216.trans (congrArg some V169)
 f225 := Tryz.func215.trans (congrArg some V169)
 f227 := Tryz.func169.trans (congrArg some V169)
 f228 := Tryz.func198.trans (congrArg some V169)
 f231 := Tryz.func168.trans (congrArg some V169)
 f233 := Tryz.func170.trans (congrArg some V169)
 f235 := Tryz.func171.trans (congrArg some V169)
 f260 := Tryz.func210.trans (congrArg some V169)
 f266 := Tryz.func221.trans (congrArg some V169)
 t0 := Tryz.underlying0
 a0 := Tryz.isAgg0
 z0 := Tryz.sizeOf0
 v0 := Tryz.zeroValue0
 t3 := Tryz.underlying3
 a3 := Tryz.isAgg3
 z3 := Tryz.sizeOf3
 v3 := Tryz.zeroValue3
 t4 := Tryz.underlying4
 a4 := Tryz.isAgg4
 z4 := Tryz.sizeOf4
 v4 := Tryz.zeroValue4
 t5 := Tryz.underlying5
 a5 := Tryz.isAgg5
 z5 := Tryz.sizeOf5
 v5 := Tryz.zeroValue5
 t9 := Tryz.underlying9
 a9 := Tryz.isAgg9
 z9 := Tryz.sizeOf9
 v9 := Tryz.zeroValue9
 t21 := Tryz.underlying21
 a21 := Tryz.isAgg21
 z21 := Tryz.sizeOf21
 v21 := Tryz.zeroValue21
 t46 := Tryz.underlying200
 a46 := Tryz.isAgg200
 z46 := Tryz.sizeOf200
 v46 := Tryz.zeroValue200
 t105 := Tryz.underlying268
 a105 := Tryz.isAgg268
 z105 := Tryz.sizeOf268
 v105 := Tryz.zeroValue268
 t116 := Tryz.underlying236
 a116 := Tryz.isAgg236
 z116 := Tryz.sizeOf236
 t117 := Tryz.underlying237
 a117 := Tryz.isAgg237
 z117 := Tryz.sizeOf237
 v117 := Tryz.zeroValue237
 t119 := Tryz.underlying276
 a119 := Tryz.isAgg276
 z119 := Tryz.sizeOf276
 t124 := Tryz.underlying240
 a124 := Tryz.isAgg240
 z124 := Tryz.sizeOf240
 v124 := Tryz.zeroValue240
 t138 := Tryz.underlying278
 a138 := Tryz.isAgg278
 z138 := Tryz.sizeOf278
 v138 := Tryz.zeroValue278
 t139 := Tryz.underlying279
 a139 := Tryz.isAgg279
 z139 := Tryz.sizeOf279
 v139 := Tryz.zeroValue279
 g3 := by kernel_rfl
 g4 := by kernel_rfl
def Tryz.lays171_ren : Go.Shelf.Ren := ⟨fun | 171 => 46 | 243 => 102 | 246 => 145 | 283 => 175 | 284 => 176 | 285 => 177 | 286 => 178 | 129 => 188 | 317 => 201 | 318 => 202 | 319 => 203 | 320 => 204 | 337 => 212 | 338 => 213 | n => n, fun | 3 => 3 | 9 => 9 | 2 => 2 | 4 => 4 | 171 => 244 | 0 => 0 | 53 => 245 | 37 => 53 | 5 => 5 | 173 => 248 | 212 => 272 | 51 => 258 | 20 => 20 | 213 => 273 | 46 => 200 | 232 => 281 | 233 => 282 | n => n, fun | 17 => 1 | 18 => 5 | 19 => 6 | n => n⟩
theorem Tryz.lays171 : Go.Proofs.LaysM.n171 Tryz.prog Tryz.lays171_ren where
 mixed := by kernel_rfl
 f129 := Tryz.func188.trans (congrArg some V169)
 f171 := Tryz.func46.trans (congrArg some V169)
 f243 := Tryz.func102.trans (congrArg some V169)
 f246 := Tryz.func145.trans (congrArg some V169)
 f283 := Tryz.func175.trans (congrArg some V169)
 f284 := Tryz.func176.trans (congrArg some V169)
 f285 := Tryz.func177.trans (congrArg some V169)
 f286 := Tryz.func178.trans (congrArg some V169)
 f317 := Tryz.func201.trans (congrArg some V169)
 f318 := Tryz.func202.trans (congrArg some V169)
 f319 := Tryz.func203.trans (congrArg some V169)
 f320 := Tryz.func204.trans (congrArg some V169)
 f337 := Tryz.func212.trans (congrArg some V169)
 f338 := Tryz.func213.trans (congrArg some V169)
 t0 := Tryz.underlying0
 a0 := Tryz.isAgg0
 z0 := Tryz.sizeOf0
 v0 := Tryz.zeroValue0
 t2 := Tryz.underlying2
 a2 := Tryz.isAgg2
 z2 := Tryz.sizeOf2
 v2 := Tryz.zeroValue2
 t3 := Tryz.underlying3
 a3 := Tryz.isAgg3
 z3 := Tryz.sizeOf3
 v3 := Tryz.zeroValue3
 t4 := Tryz.underlying4
 a4 := Tryz.isAgg4
 z4 := Tryz.sizeOf4
 v4 := Tryz.zeroValue4
 t5 := Tryz.underlying5
 a5 := Tryz.isAgg5
 z5 := Tryz.sizeOf5
 v5 := Tryz.zeroValue5
 t9 := Tryz.underlying9
 a9 := Tryz.isAgg9
 z9 := Tryz.sizeOf9
 v9 := Tryz.zeroValue9
 t20 := Tryz.underlying20
 a20 := Tryz.isAgg20
 z20 := Tryz.sizeOf20
 v20 := Tryz.zeroValue20
 t37 := Tryz.underlying53
 a37 := Tryz.isAgg53
 z37 := Tryz.sizeOf53
 v37 := Tryz.zeroValue53
 t46 := Tryz.underlying200
 a46 := Tryz.isAgg200
 z46 := Tryz.sizeOf200
 v46 := Tryz.zeroValue200
 t51 := Tryz.underlying258
 a51 := Tryz.isAgg258
 z51 := Tryz.sizeOf258
 v51 := Tryz.zeroValue258
 t53 := Tryz.underlying245
 a53 := Tryz.isAgg245
 z53 := Tryz.sizeOf245
 v53 := Tryz.zeroValue245
 t171 := Tryz.underlying244
 a171 := Tryz.isAgg244
 z171 := Tryz.sizeOf244
 v171 := Tryz.zeroValue244
 t173 := Tryz.underlying248
 a173 := Tryz.isAgg248
 z173 := Tryz.sizeOf248
 v173 := Tryz.zeroValue248
 t212 := Tryz.underlying272
 a212 := Tryz.isAgg272
 z212 := Tryz.sizeOf272
 v212 := Tryz.zeroValue272
 t213 := Tryz.underlying273
 a213 := Tryz.isAgg273
 z213 := Tryz.sizeOf273
 t232 := Tryz.underlying281
 a232 := Tryz.isAgg281
 z232 := Tryz.sizeOf281
 v232 := Tryz.zeroValue281
 t233 := Tryz.underlying282
 a233 := Tryz.isAgg282
 z233 := Tryz.sizeOf282
 v233 := Tryz.zeroValue282
 g17 := by kernel_rfl
 g18 := by kernel_rfl
 g19 := by kernel_rfl
 i0 := by kernel_rfl
 i2 := by kernel_rfl
 i3 := by kernel_rfl
 i4 := by kernel_rfl
 i5 := by kernel_rfl
 i9 := by kernel_rfl
 i20 := by kernel_rfl
 i37 := by kernel_rfl
 i46 := by kernel_rfl
 i51 := by kernel_rfl
 i53 := by kernel_rfl
 i171 := by kernel_rfl
 i173 := by kernel_rfl
 i212 := by kernel_rfl
 i232 := by kernel_rfl
 i233 := by kernel_rfl
 m17 := by kernel_rfl
 m18 := by kernel_rfl
 m19 := by kernel_rfl
def Tryz.lays290_ren : Go.Shelf.Ren := ⟨fun | 290 => 191 | 324 => 209 | n => n, fun | 37 => 53 | 3 => 3 | 0 => 0 | 4 => 4 | 20 => 20 | 75 => 166 | 5 => 5 | 80 => 97 | 9 => 9 | n => n, fun | 14 => 0 | n => n⟩
theorem Tryz.lays290 : Go.Proofs.LaysM.n290 Tryz.prog Tryz.lays290_ren where
 mixed := by kernel_rfl
 f290 := Tryz.func191.trans (congrArg some V169)
 f324 := Tryz.func209.trans (congrArg some V169)
 t0 := Tryz.underlying0
 a0 := Tryz.isAgg0
 z0 := Tryz.sizeOf0
 v0 := Tryz.zeroValue0
 t3 := Tryz.underlying3
 a3 := Tryz.isAgg3
 z3 := Tryz.sizeOf3
 v3 := Tryz.zeroValue3
 t4 := Tryz.underlying4
 a4 := Tryz.isAgg4
 z4 := Tryz.sizeOf4
 v4 := Tryz.zeroValue4
 t20 := Tryz.underlying20
 a20 := Tryz.isAgg20
 z20 := Tryz.sizeOf20
 v20 := Tryz.zeroValue20
 t37 := Tryz.underlying53
 a37 := Tryz.isAgg53
 z37 := Tryz.sizeOf53
 v37 := Tryz.zeroValue53
 t75 := Tryz.underlying166
 a75 := Tryz.isAgg166
 z75 := Tryz.sizeOf166
 v75 := Tryz.zeroValue166
 g14 := by kernel_rfl
 t5 := Tryz.underlying5
 a5 := Tryz.isAgg5
 z5 := Tryz.sizeOf5
 v5 := Tryz.zeroValue5
 t9 := Tryz.underlying9
 a9 := Tryz.isAgg9
 z9 := Tryz.sizeOf9
 v9 := Tryz.zeroValue9
 t80 := Tryz.underlying97
 a80 := Tryz.isAgg97
 z80 := Tryz.sizeOf97
 v80 := Tryz.zeroValue97
 i0 := by kernel_rfl
 i3 := by kernel_rfl
 i4 := by kernel_rfl
 i5 := by kernel_rfl
 i9 := by kernel_rfl
 i20 := by kernel_rfl
 i37 := by kernel_rfl
 i75 := by kernel_rfl
 i80 := by kernel_rfl
 m14 := by kernel_rfl
end Go.Proofs
namespace Go.Proofs
open Go.Shelf
theorem Tryz.extra105 : Builder.Extra Tryz.prog Tryz.lays105_ren where
 sizeBuilder := by kernel_rfl
 liesBuilder := by kernel_rfl
 t5 := Tryz.underlying5
 a5 := Tryz.isAgg5
 z5 := Tryz.sizeOf5
 v5 := Tryz.zeroValue5
 infoByte := by kernel_rfl
 cellsByte := by kernel_rfl
 sizeByte := by kernel_rfl
 neB5 := by decide
theorem Tryz.extra156 : Builder.Extra Tryz.prog Tryz.lays156_ren where
 sizeBuilder := by kernel_rfl
 liesBuilder := by kernel_rfl
 t5 := Tryz.underlying5
 a5 := Tryz.isAgg5
 z5 := Tryz.sizeOf5
 v5 := Tryz.zeroValue5
 infoByte := by kernel_rfl
 cellsByte := by kernel_rfl
 sizeByte := by kernel_rfl
 neB5 := by decide
end Go.Proofs
namespace Go.Mw
open Go.Proofs Go.RowKit
section one
variable {S : Settled} {ι : Nat → Value} {H : Nat → Option AO} {w : World}
theorem args1 {a : Value} {vs : List Value} (h : All2 (RepV S ι H w) [.raw a] vs) : vs = [a] := by
 match vs, h with
 | [v], h => rw [raw_eq (rep_leaf h.1)]
theorem args2 {a b : Value} {vs : List Value} (h : All2 (RepV S ι H w) [.raw a, .raw b] vs) : vs = [a, b] := by
 match vs, h with
 | [v, u], h => rw [raw_eq (rep_leaf h.1), raw_eq (rep_leaf h.2.1)]
end one
theorem repV_raw {v : Value} (h : v.oneCell' = true) : ∀ S ι H w, RepV S ι H w (.raw v) v := fun S ι H w => ⟨_, rfl, RepD.raw v h⟩
theorem c_HasSuffix (s p : List UInt8) (hs : s.length ≤ 9223372036854775807) : Contract Tryz.prog 106 [.str s, .str p] (.bool (Lib.hasSuffix s p)) [] :=
 con_lib fun S ι w vs hG hin h => by
  rw [args2 h]
  have := Any.strings_HasSuffix Tryz.lays100 (bs s) (bs p) w (by rw [bs_size]; exact hs)
  rw [bs_toList, bs_toList] at this
  exact this.mono fun e w' ⟨he, hw⟩ => ⟨_, he, repV_raw rfl, hw ▸ Below.refl _ _⟩
theorem c_TrimSuffix (s p : List UInt8) (hs : s.length ≤ 9223372036854775807) : Contract Tryz.prog 108 [.str s, .str p] (.str (Lib.trimSuffix s p)) [] :=
 con_lib fun S ι w vs hG hin h => by
  rw [args2 h]
  have := Any.strings_TrimSuffix Tryz.lays102 (bs s) (bs p) w (by rw [bs_size]; exact hs)
  rw [bs_toList, bs_toList] at this
  exact this.mono fun e w' ⟨he, hw⟩ => ⟨_, he, repV_raw rfl, hw ▸ Below.refl _ _⟩
theorem c_Itoa (n : Int) (h0 : -9223372036854775808 ≤ n) (h1 : n ≤ 9223372036854775807) (g : Nat) (hg : Tryz.prog.globalNamed "internal/strconv.uint64pow10" = some g) : Contract Tryz.prog 46 [.int n] (.str (Lib.itoa n)) [] :=
 con_lib fun S ι w vs hG hin h => by
  rw [args1 h]
  have := Any.strconv_Itoa Tryz.lays171 n h0 h1 w (hG.tab _ _ _ (by simp [libTabs]) g hg).2
  exact this.mono fun e w' ⟨he, k, os, hw⟩ => ⟨_, he, repV_raw rfl, by subst hw; exact Go.Lib.below_grow _ _ (Nat.le_refl _) _ _⟩
theorem c_Repeat (s : List UInt8) (c : Nat) (hc : c ≤ 9223372036854775807) (hl : s.length * c ≤ 140737488355328) : Contract Tryz.prog 131 [.str s, .int c] (.str (Lib.repeatL s c)) [] :=
 con_lib fun S ι w vs hG hin h => by
  rw [args2 h]
  have := Any.strings_Repeat Tryz.lays105 Tryz.extra105 (bs s) c w hc (by rw [bs_size]; exact hl)
  rw [bs_toList] at this
  exact this.mono fun e w' ⟨he, hw⟩ => ⟨_, he, repV_raw rfl, hw⟩
theorem c_Join (xs : List (List UInt8)) (sep : List UInt8) (hN : xs.length ≤ 140737488355328) (hl : (Lib.join xs sep).length ≤ 140737488355328) :
  Contract Tryz.prog 84 [.leaf (.d (.sl 1 (xs.map fun x => [.raw (.string (bs x))]))), .str sep] (.str (Lib.join xs sep)) [] :=
 con_lib fun S ι w vs hG hin h => by
  match vs, h with
  | [v, u], h =>
  have hu := raw_eq (rep_leaf h.2.1)
  have hv : RepD S w _ v := rep_leaf h.1
  subst hu
  have em : (xs.map bs).map (·.data.toList) = xs := by
   rw [List.map_map, show ((fun x : ByteArray => x.data.toList) ∘ bs) = id from funext fun x => bs_toList x, List.map_id]
  generalize hes : (xs.map fun x => [D.raw (.string (bs x))]) = es at hv
  cases hv with
  | nil _ p c =>
   have : xs = [] := by simpa using hes
   subst this
   have := Any.strings_Join_none Tryz.lays156 Tryz.extra156 p c (bs sep) w
   exact this.mono fun e w' ⟨he, hw⟩ => ⟨_, he, repV_raw rfl, hw ▸ Below.refl _ _⟩
  | sl _ _ b off c vals hc hk hS hw hr =>
   have hlen : es.length = (xs.map bs).length := by rw [← hes]; simp
   have hat : ∀ (j : Nat) (x : ByteArray), (xs.map bs)[j]? = some x → es[j]? = some [.raw (.string x)] := fun j x hx => by
    rw [← hes, List.getElem?_map]
    rw [List.getElem?_map] at hx
    cases hj : xs[j]? with
    | none => simp [hj] at hx
    | some y => simp only [hj, Option.map_some, Option.some.injEq] at hx ⊢; rw [hx]
   by_cases h0 : xs = []
   ·subst h0
    simp at hes; subst hes
    have := Any.strings_Join_none Tryz.lays156 Tryz.extra156 (some ⟨b, off, none⟩) c (bs sep) w
    exact this.mono fun e w' ⟨he, hw⟩ => ⟨_, he, repV_raw rfl, hw ▸ Below.refl _ _⟩
   have hb : b < w.heap.size := by
    cases xs with
    | nil => exact absurd rfl h0
    | cons y ys => exact hin b _ (hS 0 _ 0 _ (hat 0 (bs y) rfl) rfl)
   have := Any.strings_Join Tryz.lays156 Tryz.extra156 b off c (xs.map bs) (bs sep) w (fun j x hx => by
    have h1 := hw j _ 0 _ (hat j x hx) rfl
    have h2 := raw_eq (hr j _ 0 _ (hat j x hx) rfl)
    rw [Nat.mul_one, Nat.add_zero] at h1
    rw [h1, h2]) hb (by simpa using hN) (by rw [← hlen]; exact hc) (by rw [em, bs_toList]; exact hl)
   rw [em, bs_toList, ← hlen] at this
   exact this.mono fun e w' ⟨he, hw⟩ => ⟨_, he, repV_raw rfl, hw⟩
theorem c_Len (n : Int) (h0 : 0 ≤ n) (h1 : n ≤ 18446744073709551615) : Contract Tryz.prog 156 [.raw (.int .u64 n)] (.int (Lib.bitLen n.toNat)) [] :=
 con_lib fun S ι w vs hG hin h => by
  rw [args1 h]
  exact (Any.bits_Len Tryz.lays125 n w h0 h1).mono fun e w' ⟨he, hw⟩ => ⟨_, he, repV_raw rfl, hw ▸ Below.refl _ _⟩
theorem c_TrimLeft (s : List UInt8) (c : UInt8) (hc : c.toNat < 128) : Contract Tryz.prog 136 [.str s, .str [c]] (.str (Lib.trimLeftB s c)) [] :=
 con_lib fun S ι w vs hG hin h => by
  rw [args2 h]
  have := Any.strings_TrimLeft_one Tryz.lays161 (bs s) c hc w
  rw [bs_toList] at this
  exact this.mono fun e w' ⟨he, hw⟩ => ⟨_, he, repV_raw rfl, hw ▸ Below.refl _ _⟩
theorem c_Cut (s p : List UInt8) (hs : s.length < 4294967281) (g : Nat) (hg : Tryz.prog.globalNamed "internal/bytealg.MaxLen" = some g) (hr : Tryz.lays145_ren.g 1 = g) :
  Contract Tryz.prog 150 [.str s, .str p] (.tup [(false, [.d (.raw (.string (bs (Lib.cut s p).1)))]), (false, [.d (.raw (.string (bs (Lib.cut s p).2.1)))]), (false, [.d (.raw (.bool (Lib.cut s p).2.2))])]) [] :=
 con_lib fun S ι w vs hG hin h => by
  rw [args2 h]
  obtain ⟨m, hm⟩ := (hG.max g hg).2
  have := Any.strings_Cut { Tryz.lays145 with } (bs s) (bs p) m w (by rw [bs_size]; exact hs) (by rw [hr]; exact hm)
  rw [bs_toList, bs_toList] at this
  exact this.mono fun e w' ⟨he, n, hw⟩ => ⟨_, he, fun S ι H w => ⟨_, rfl, ⟨_, rfl, RepD.raw _ rfl⟩, ⟨_, rfl, RepD.raw _ rfl⟩, ⟨_, rfl, RepD.raw _ rfl⟩, trivial⟩, hw ▸ below_drewN (Below.refl _ _) n⟩
def piecesB (s p : List UInt8) : List (List D) := (Lib.splitB (bs p) 0 (Lib.countB (bs s) (bs p)) (bs s)).map fun x => [.raw (.string x)]
theorem c_Split (s p : List UInt8) (hp : 1 ≤ p.length) (hs : s.length < 4294967281) (g : Nat) (hg : Tryz.prog.globalNamed "internal/bytealg.MaxLen" = some g) (hr : Tryz.lays146_ren.g 1 = g) :
  Contract Tryz.prog 107 [.str s, .str p] (.leaf (.own 900 0 (piecesB s p).length (piecesB s p).length)) [(900, .arr 9 1 (piecesB s p))] :=
 con_libA rfl (fun x hx => by obtain ⟨y, _, rfl⟩ := List.mem_map.1 hx; rfl) (by omega) fun S ι w vs hG hin h => by
  rw [args2 h]
  obtain ⟨m, hm⟩ := (hG.max g hg).2
  have hlen := Lib.splitB_all (bs p) (by rw [bs_size]; exact hp) 0 _ (bs s) rfl
  have hle := Lib.countB_le (bs p) (by rw [bs_size]; exact hp) (bs s).size (bs s) (Nat.le_refl _)
  have := Any.strings_Split { Tryz.lays146 with } Tryz.lays146.i9 (bs s) (bs p) m w (by rw [bs_size]; exact hs) (by rw [hr]; exact hm) (by rw [bs_size]; exact hp)
  refine this.mono fun e w' ⟨he, hw⟩ => ⟨_, (Lib.splitB (bs p) 0 (Lib.countB (bs s) (bs p)) (bs s)).map Value.string, he, ?_, fun S w => ?_, ?_⟩
  ·subst hw
   have hn : (piecesB s p).length = Lib.countB (bs s) (bs p) + 1 := by unfold piecesB; rw [List.length_map]; exact hlen
   refine ⟨by rw [List.length_map, hn, hlen, Nat.mul_one], .inr ⟨w.heap.size, Lib.countB (bs s) (bs p) + 1, _, by rw [hn], Nat.le_refl _, Go.heap_alloc_new w _, by omega, ?_, ?_, ?_⟩⟩
   ·rw [bs_size] at hle
    unfold maxLen
    omega
   ·rw [List.size_toArray, List.length_map, hlen, Nat.mul_one]
   ·rw [hn, Nat.mul_one, List.take_of_length_le]
    rw [List.length_map, hlen]; exact Nat.le_refl _
  ·unfold piecesB
   generalize Lib.splitB (bs p) 0 (Lib.countB (bs s) (bs p)) (bs s) = l
   induction l with
   | nil => trivial
   | cons x l ih => exact ⟨RepD.raw _ rfl, ih⟩
  ·subst hw
   exact ⟨rfl, rfl, rfl, by simp, fun k hk => Below.heap_alloc w _ k hk⟩
end Go.Mw
namespace Go.Bk
abbrev Bs := List UInt8
theorem snocInd {α : Type} {p : List α → Prop} (nil : p []) (snoc : ∀ l a, p l → p (l ++ [a])) (l : List α) : p l := by
 have h : ∀ r : List α, p r.reverse := by
  intro r
  induction r with
  | nil => exact nil
  | cons a r ih => rw [List.reverse_cons]; exact snoc _ _ ih
 have := h l.reverse
 rwa [List.reverse_reverse] at this
def txt (n : Nat) : Bs := Lib.decDigits n
theorem txt_small {n : Nat} (h : n < 10) : txt n = [UInt8.ofNat (48 + n)] := by unfold txt; rw [Lib.decDigits, dif_pos h]
theorem txt_big {n : Nat} (h : ¬ n < 10) : txt n = txt (n / 10) ++ [UInt8.ofNat (48 + n % 10)] := by unfold txt; rw [Lib.decDigits, dif_neg h]
theorem itoa_nat (n : Nat) : Lib.itoa (n : Int) = txt n := by unfold Lib.itoa txt; rw [if_neg (by omega), Int.toNat_natCast]
def isDig (c : UInt8) : Bool := decide (48 ≤ c.toNat) && decide (c.toNat ≤ 57)
theorem isDig_iff {c : UInt8} : isDig c = true ↔ 48 ≤ c.toNat ∧ c.toNat ≤ 57 := by simp [isDig]
theorem ofNat_toNat {n : Nat} (h : n < 256) : (UInt8.ofNat n).toNat = n := by simp; omega
theorem dig_toNat {d : Nat} (h : d < 10) : (UInt8.ofNat (48 + d)).toNat = 48 + d := ofNat_toNat (by omega)
theorem isDig_of {d : Nat} (h : d < 10) : isDig (UInt8.ofNat (48 + d)) = true := by rw [isDig_iff, dig_toNat h]; omega
theorem u8_ext {a b : UInt8} (h : a.toNat = b.toNat) : a = b := UInt8.toNat.inj h
theorem txt_all (n : Nat) : (txt n).all isDig = true := by
 induction n using Nat.strongRecOn with
 | _ n ih =>
  by_cases h : n < 10
  ·rw [txt_small h, List.all_cons, isDig_of h]; rfl
  ·rw [txt_big h, List.all_append, ih (n / 10) (by omega), List.all_cons, isDig_of (show n % 10 < 10 by omega)]; rfl
theorem txt_ne (n : Nat) : txt n ≠ [] := by
 by_cases h : n < 10
 ·rw [txt_small h]; simp
 ·rw [txt_big h]; simp
theorem txt_zero : txt 0 = [48] := txt_small (by omega)
theorem txt_head (n : Nat) (h : 1 ≤ n) : (txt n).head? ≠ some 48 := by
 induction n using Nat.strongRecOn with
 | _ n ih =>
  by_cases h10 : n < 10
  ·rw [txt_small h10]
   simp only [List.head?_cons, ne_eq, Option.some.injEq]
   intro e
   have := congrArg UInt8.toNat e
   rw [dig_toNat h10] at this
   simp at this
   omega
  ·rw [txt_big h10]
   have h1 := ih (n / 10) (by omega) (by omega)
   cases hx : txt (n / 10) with
   | nil => exact absurd hx (txt_ne _)
   | cons a l => rw [hx] at h1; simpa using h1
theorem txt_len {n k : Nat} (h : n < 10 ^ k) (hk : 1 ≤ k) : (txt n).length ≤ k := by
 induction k generalizing n with
 | zero => omega
 | succ k ih =>
  by_cases h10 : n < 10
  ·rw [txt_small h10]; simp
  ·rw [txt_big h10, List.length_append, List.length_singleton]
   by_cases hk0 : k = 0
   ·subst hk0; simp at h; omega
   ·have := ih (n := n / 10) (by rw [Nat.pow_succ] at h; omega) (by omega)
    omega
def valD (l : Bs) : Nat := l.foldl (fun n c => 10 * n + (c.toNat - 48)) 0
theorem valD_snoc (l : Bs) (c : UInt8) : valD (l ++ [c]) = 10 * valD l + (c.toNat - 48) := by simp [valD]
theorem valD_txt (n : Nat) : valD (txt n) = n := by
 induction n using Nat.strongRecOn with
 | _ n ih =>
  by_cases h : n < 10
  ·rw [txt_small h]; show 10 * 0 + _ = _; rw [dig_toNat h]; omega
  ·rw [txt_big h, valD_snoc, ih (n / 10) (by omega), dig_toNat (by omega)]; omega
theorem txt_valD (s : Bs) (h0 : s ≠ []) (hd : s.all isDig = true) (hz : s = [48] ∨ s.head? ≠ some 48) : txt (valD s) = s := by
 induction s using snocInd with
 | nil => exact absurd rfl h0
 | snoc l c ih =>
  rw [List.all_append] at hd
  simp only [List.all_cons, List.all_nil, Bool.and_true, Bool.and_eq_true] at hd
  obtain ⟨hl, hc⟩ := hd
  have hc := isDig_iff.1 hc
  rw [valD_snoc]
  by_cases hn : l = []
  ·subst hn
   show txt (10 * 0 + _) = [c]
   rw [txt_small (by omega)]
   congr 1
   apply u8_ext
   rw [ofNat_toNat (by omega)]; omega
  ·have hh : l.head? ≠ some 48 := by
    cases l with
    | nil => exact absurd rfl hn
    | cons a l =>
     rcases hz with hz | hz
     ·simp at hz
     ·simpa using hz
   have e := ih hn hl (.inr hh)
   have hv : 1 ≤ valD l := by
    rcases Nat.eq_zero_or_pos (valD l) with h | h
    ·rw [h, txt_zero] at e; rw [← e] at hh; simp at hh
    ·exact h
   rw [txt_big (by omega), show (10 * valD l + (c.toNat - 48)) / 10 = valD l by omega, e]
   congr 2
   apply u8_ext
   rw [ofNat_toNat (by omega)]; omega
def pad (c : UInt8) (w : Nat) (x : Bs) : Bs := List.replicate (w - x.length) c ++ x
theorem pad_len (c : UInt8) {w : Nat} {x : Bs} (h : x.length ≤ w) : (pad c w x).length = w := by simp [pad]; omega
def dw (c : UInt8) (x : Bs) : Bs := Lib.trimLeftB x c
theorem dw_rep (c : UInt8) (k : Nat) (x : Bs) : dw c (List.replicate k c ++ x) = dw c x := by
 induction k with
 | zero => rfl
 | succ k ih => rw [List.replicate_succ, List.cons_append]; unfold dw Lib.trimLeftB at *; rw [List.dropWhile_cons_of_pos (by simp), ih]
theorem dw_pad (c : UInt8) (w : Nat) (x : Bs) : dw c (pad c w x) = dw c x := dw_rep c _ x
theorem dw_head {c : UInt8} {x : Bs} (h : x.head? ≠ some c) : dw c x = x := by
 cases x with
 | nil => rfl
 | cons a l => unfold dw Lib.trimLeftB; rw [List.dropWhile_cons_of_neg (by intro e; rw [beq_iff_eq] at e; subst e; simp at h)]
theorem dw_pad_txt0 (n w : Nat) (h : 1 ≤ n) : dw 48 (pad 48 w (txt n)) = txt n := by rw [dw_pad, dw_head (txt_head n h)]
theorem dw_pad_txt (n w : Nat) : dw 32 (pad 32 w (txt n)) = txt n := by
 rw [dw_pad, dw_head]
 intro h
 have := List.all_eq_true.1 (txt_all n) 32 (List.mem_of_mem_head? h)
 exact absurd this (by decide)
def figOK (s : Bs) : Bool := decide (s ≠ []) && decide (s.length ≤ 12) && (decide (s = [48]) || decide (s.head? ≠ some 48)) && s.all isDig
theorem figOK_iff {s : Bs} : figOK s = true ↔ s ≠ [] ∧ s.length ≤ 12 ∧ (s = [48] ∨ s.head? ≠ some 48) ∧ s.all isDig = true := by
 unfold figOK
 simp only [Bool.and_eq_true, Bool.or_eq_true, decide_eq_true_eq]
 constructor
 ·rintro ⟨⟨⟨a, b⟩, c⟩, d⟩; exact ⟨a, b, c, d⟩
 ·rintro ⟨a, b, c, d⟩; exact ⟨⟨⟨a, b⟩, c⟩, d⟩
theorem figOK_txt {n : Nat} (h : n < 10 ^ 12) : figOK (txt n) = true := by
 refine figOK_iff.2 ⟨txt_ne n, txt_len h (by omega), ?_, txt_all n⟩
 by_cases h0 : n = 0
 ·subst h0; exact .inl txt_zero
 ·exact .inr (txt_head n (by omega))
theorem fig_txt {s : Bs} (h : figOK s = true) : txt (valD s) = s := by
 obtain ⟨a, _, c, d⟩ := figOK_iff.1 h
 exact txt_valD s a d c
def dig (c : UInt8) : Nat := if isDig c then c.toNat - 48 else 0
def dsum : Bs → Nat
 | [] => 0
 | c :: l => dig c + dsum l
theorem dsum_app (a b : Bs) : dsum (a ++ b) = dsum a + dsum b := by
 induction a with
 | nil => simp [dsum]
 | cons c a ih => simp [dsum, ih]; omega
theorem dig_le (c : UInt8) : dig c ≤ 9 := by
 unfold dig
 split
 ·next h => have := isDig_iff.1 h; omega
 ·exact Nat.zero_le _
theorem dsum_le (l : Bs) : dsum l ≤ 9 * l.length := by
 induction l with
 | nil => simp [dsum]
 | cons c l ih => have := dig_le c; simp [dsum]; omega
def chk (l : Bs) : Bs := txt (dsum l % 10)
theorem chk_len (l : Bs) : (chk l).length = 1 := by unfold chk; rw [txt_small (by omega)]; rfl
def cutB (c : UInt8) : Bs → List Bs
 | [] => [[]]
 | x :: l => if x = c then [] :: cutB c l else match cutB c l with
  | [] => [[x]]
  | a :: r => (x :: a) :: r
theorem cutB_ne (c : UInt8) (l : Bs) : cutB c l ≠ [] := by
 induction l with
 | nil => simp [cutB]
 | cons x l ih =>
  unfold cutB
  split
  ·simp
  ·split <;> simp
theorem cutB_hit (c : UInt8) (l : Bs) : cutB c (c :: l) = [] :: cutB c l := by rw [cutB, if_pos rfl]
theorem cutB_app (c : UInt8) : ∀ (a l : Bs), c ∉ a → cutB c (a ++ c :: l) = a :: cutB c l
 | [], l, _ => cutB_hit c l
 | x :: a, l, h => by
  have hx : x ≠ c := fun e => h (by simp [e])
  rw [List.cons_append, cutB, if_neg hx, cutB_app c a l (fun e => h (by simp [e]))]
theorem cutB_none (c : UInt8) : ∀ (a : Bs), c ∉ a → cutB c a = [a]
 | [], _ => rfl
 | x :: a, h => by
  have hx : x ≠ c := fun e => h (by simp [e])
  rw [cutB, if_neg hx, cutB_none c a (fun e => h (by simp [e]))]
def ends (c : UInt8) (ls : List Bs) : Bs := (ls.map (· ++ [c])).flatten
theorem ends_nil (c : UInt8) : ends c [] = [] := rfl
theorem ends_cons (c : UInt8) (l : Bs) (ls : List Bs) : ends c (l :: ls) = l ++ c :: ends c ls := by simp [ends]
theorem ends_app (c : UInt8) (a b : List Bs) : ends c (a ++ b) = ends c a ++ ends c b := by simp [ends]
theorem cutB_ends (c : UInt8) : ∀ (ls : List Bs), (∀ l ∈ ls, c ∉ l) → cutB c (ends c ls) = ls ++ [[]]
 | [], _ => rfl
 | l :: ls, h => by
  rw [ends_cons, cutB_app c l _ (h l (by simp)), cutB_ends c ls (fun x hx => h x (by simp [hx]))]; rfl
theorem cutB_snoc (c : UInt8) (t : Bs) : cutB c (t ++ [c]) = cutB c t ++ [[]] := by
 induction t with
 | nil => rw [List.nil_append, cutB_hit]; rfl
 | cons x t ih =>
  rw [List.cons_append, cutB, cutB]
  split
  ·rw [ih]; rfl
  ·rw [ih]
   cases hc : cutB c t with
   | nil => exact absurd hc (cutB_ne c t)
   | cons a r => rfl
theorem cutB_join (c : UInt8) (t : Bs) : ends c (cutB c t) = t ++ [c] := by
 induction t with
 | nil => rfl
 | cons x t ih =>
  rw [cutB]
  split
  ·next h => subst h; rw [ends_cons, ih]; rfl
  ·cases hc : cutB c t with
   | nil => exact absurd hc (cutB_ne c t)
   | cons a r =>
    rw [hc, ends_cons] at ih
    show ends c ((x :: a) :: r) = _
    rw [ends_cons, List.cons_append, ih]; rfl
end Go.Bk
namespace Go.Bk
def inD (n lo hi : Int) : Bool := decide (lo ≤ n) && decide (n ≤ hi)
theorem inD_iff {n lo hi : Int} : inD n lo hi = true ↔ lo ≤ n ∧ n ≤ hi := by simp [inD]
def rises : List Int → Bool
 | a :: b :: l => decide (a < b) && rises (b :: l)
 | _ => true
def errB (n most : Nat) (ok rise : Bool) : Int := if most < n then 3 else if ok then (if rise then 0 else 7) else 1
theorem errB_ok {n most : Nat} {ok rise : Bool} (h : errB n most ok rise = 0) : n ≤ most ∧ ok = true ∧ rise = true := by
 unfold errB at h
 split at h
 ·cases h
 ·cases ok <;> cases rise <;> simp at h; exact ⟨by omega, rfl, rfl⟩
structure Tr where
 flow : Int
 pour : Int
 shown : Int
 deriving DecidableEq, Inhabited
structure Sh where
 meter : Int
 tries : List Tr
 deriving DecidableEq, Inhabited
def tryOK (t : Tr) : Bool := inD t.flow 1 100000 && inD t.pour 0 9999999 && inD t.shown 0 9999999
def sheetOK (x : Sh) : Bool := inD x.meter 1 999999 && decide (x.tries.length ≤ 6) && x.tries.all tryOK
def sheetsE (l : List Sh) : Int := errB l.length 12 (l.all sheetOK) (rises (l.map Sh.meter))
def headSh (m : Int) : Bs := 35 :: pad 48 6 (txt m.toNat)
def rowT (t : Tr) : Bs := pad 32 6 (txt t.flow.toNat) ++ 32 :: (pad 32 7 (txt t.pour.toNat) ++ 32 :: pad 32 7 (txt t.shown.toNat))
def full (h : Bs) : Bs := h ++ 32 :: chk h
def linesS (x : Sh) : List Bs := full (headSh x.meter) :: x.tries.map fun t => full (rowT t)
def linesSs (l : List Sh) : List Bs := (l.map linesS).flatten
def sheetsB (l : List Sh) : Bs := ends 10 (linesSs l)
def wSheets (l : List Sh) : Bs := if sheetsE l = 0 then sheetsB l else []
theorem linesSs_app (a b : List Sh) : linesSs (a ++ b) = linesSs a ++ linesSs b := by simp [linesSs]
theorem sheetsB_app (a b : List Sh) : sheetsB (a ++ b) = sheetsB a ++ sheetsB b := by unfold sheetsB; rw [linesSs_app, ends_app]
theorem full_len (h : Bs) : (full h).length = h.length + 2 := by unfold full; rw [List.length_append, List.length_cons, chk_len]
theorem full_take (h : Bs) : (full h).take h.length = h := by unfold full; simp
theorem full_drop (h : Bs) : (full h).drop (h.length + 1) = chk h := by
 unfold full
 rw [show h.length + 1 = (h ++ [(32 : UInt8)]).length by simp, show h ++ 32 :: chk h = (h ++ [32]) ++ chk h by simp, List.drop_left]
theorem full_at (h : Bs) : (full h)[h.length]? = some 32 := by unfold full; simp
theorem free_txt (n : Nat) : (10 : UInt8) ∉ txt n := fun h => absurd (List.all_eq_true.1 (txt_all n) 10 h) (by decide)
theorem free_pad {c : UInt8} (hc : c ≠ 10) {w : Nat} {x : Bs} (hx : (10 : UInt8) ∉ x) : (10 : UInt8) ∉ pad c w x := by
 unfold pad
 rw [List.mem_append]
 rintro (h | h)
 ·exact hc (List.mem_replicate.1 h).2.symm
 ·exact hx h
theorem free_full {h : Bs} (hh : (10 : UInt8) ∉ h) : (10 : UInt8) ∉ full h := by
 unfold full
 rw [List.mem_append, List.mem_cons]
 rintro (h1 | h1 | h1)
 ·exact hh h1
 ·exact absurd h1 (by decide)
 ·exact free_txt _ h1
theorem free_head (m : Int) : (10 : UInt8) ∉ headSh m := by
 unfold headSh
 rw [List.mem_cons]
 rintro (h | h)
 ·exact absurd h (by decide)
 ·exact free_pad (by decide) (free_txt _) h
theorem free_row (t : Tr) : (10 : UInt8) ∉ rowT t := by
 unfold rowT
 simp only [List.mem_append, List.mem_cons]
 rintro (h | h | h | h | h)
 ·exact free_pad (by decide) (free_txt _) h
 ·exact absurd h (by decide)
 ·exact free_pad (by decide) (free_txt _) h
 ·exact absurd h (by decide)
 ·exact free_pad (by decide) (free_txt _) h
theorem lines_full {l : List Sh} {x : Bs} (h : x ∈ linesSs l) : ∃ y, x = full y ∧ (10 : UInt8) ∉ y ∧ y ≠ [] := by
 unfold linesSs at h
 obtain ⟨a, ha, hx⟩ := List.mem_flatten.1 h
 obtain ⟨s, _, rfl⟩ := List.mem_map.1 ha
 unfold linesS at hx
 rcases List.mem_cons.1 hx with e | e
 ·exact ⟨_, e, free_head _, by simp [headSh]⟩
 ·obtain ⟨t, _, rfl⟩ := List.mem_map.1 e
  exact ⟨_, rfl, free_row _, by simp [rowT]⟩
theorem free_lines {l : List Sh} : ∀ x ∈ linesSs l, (10 : UInt8) ∉ x := fun x h => by
 obtain ⟨y, rfl, hy, _⟩ := lines_full h
 exact free_full hy
def addT (l : List Sh) (t : Tr) : List Sh := match l.getLast? with
 | some x => l.dropLast ++ [⟨x.meter, x.tries ++ [t]⟩]
 | none => l
theorem addT_snoc (l : List Sh) (x : Sh) (t : Tr) : addT (l ++ [x]) t = l ++ [⟨x.meter, x.tries ++ [t]⟩] := by simp [addT]
def meterP (h : Bs) : Option Int :=
 if h.length = 7 ∧ figOK (dw 48 (h.drop 1)) = true ∧ pad 48 6 (txt (valD (dw 48 (h.drop 1)))) = h.drop 1 then some (valD (dw 48 (h.drop 1))) else none
def pieces (h : Bs) : Bs × Bs × Bs := (h.take 6, (h.drop 7).take 7, (h.drop 15).take 7)
def tryP (h : Bs) : Option Tr :=
 if (h.length = 22 ∧ h[6]? = some 32 ∧ h[14]? = some 32) ∧ (figOK (dw 32 (pieces h).1) = true ∧ figOK (dw 32 (pieces h).2.1) = true ∧ figOK (dw 32 (pieces h).2.2) = true) ∧
  (pad 32 6 (txt (valD (dw 32 (pieces h).1))) = (pieces h).1 ∧ pad 32 7 (txt (valD (dw 32 (pieces h).2.1))) = (pieces h).2.1 ∧ pad 32 7 (txt (valD (dw 32 (pieces h).2.2))) = (pieces h).2.2) then
  some ⟨valD (dw 32 (pieces h).1), valD (dw 32 (pieces h).2.1), valD (dw 32 (pieces h).2.2)⟩ else none
def chkOK (own : Bs) : Bool := decide (3 ≤ own.length) && (decide (own[own.length - 2]? = some 32) && decide (chk (own.take (own.length - 2)) = own.drop (own.length - 1)))
def stepP (l : List Sh) (own : Bs) : Option (List Sh) :=
 if chkOK own = true then
  if own.head? = some 35 then (meterP (own.take (own.length - 2))).map fun m => l ++ [⟨m, []⟩]
  else if l = [] then none else (tryP (own.take (own.length - 2))).map fun t => addT l t
 else none
def linesP (text : Bs) : Option (List Bs) := if text = [] then some [] else if text.getLast? = some 10 then some (cutB 10 text.dropLast) else none
def strictS (text : Bs) : Option (List Sh) := (linesP text).bind fun ls => ls.foldlM stepP []
def parseS (text : Bs) : Option (List Sh) := match strictS text with
 | some l => if sheetsE l = 0 then some l else none
 | none => none
theorem chkOK_full {h : Bs} (h0 : h ≠ []) : chkOK (full h) = true := by
 have hl := List.length_pos_iff.2 h0
 unfold chkOK
 rw [full_len, show h.length + 2 - 2 = h.length by omega, show h.length + 2 - 1 = h.length + 1 by omega, full_at, full_take, full_drop]
 simp; omega
theorem chkOK_iff {own : Bs} (h : chkOK own = true) : own = full (own.take (own.length - 2)) := by
 unfold chkOK at h
 simp only [Bool.and_eq_true, decide_eq_true_eq] at h
 obtain ⟨h1, h2, h3⟩ := h
 unfold full
 rw [h3]
 obtain ⟨hlt, he⟩ := List.getElem?_eq_some_iff.1 h2
 have := List.take_append_drop (own.length - 2) own
 rw [List.drop_eq_getElem_cons hlt, he, show own.length - 2 + 1 = own.length - 1 by omega] at this
 exact this.symm
theorem lines_back {text : Bs} {ls : List Bs} (h : linesP text = some ls) : text = ends 10 ls := by
 unfold linesP at h
 split at h
 ·next e => cases h; rw [e]; rfl
 ·split at h
  ·next h0 hl =>
   cases h
   rw [cutB_join]
   obtain ⟨l, rfl⟩ : ∃ l, text = l ++ [10] := by
    rw [List.getLast?_eq_some_iff] at hl
    exact hl
   simp
  ·cases h
theorem lines_ends {ls : List Bs} (h : ∀ l ∈ ls, (10 : UInt8) ∉ l) : linesP (ends 10 ls) = some ls := by
 unfold linesP
 by_cases h0 : ls = []
 ·subst h0; rfl
 ·obtain ⟨a, b, rfl⟩ : ∃ a b, ls = a ++ [b] := ⟨ls.dropLast, ls.getLast h0, (List.dropLast_concat_getLast h0).symm⟩
  have e : ends 10 (a ++ [b]) = (ends 10 a ++ b) ++ [10] := by rw [ends_app, ends_cons, ends_nil]; simp
  have hc := cutB_ends 10 (a ++ [b]) h
  rw [e] at hc ⊢
  rw [cutB_snoc] at hc
  rw [if_neg (by simp), if_pos (by simp), List.dropLast_concat, List.append_cancel_right hc]
theorem head_len {m : Int} (h0 : 0 ≤ m) (h1 : m ≤ 999999) : (headSh m).length = 7 := by
 unfold headSh
 rw [List.length_cons, pad_len]
 exact txt_len (by omega) (by omega)
theorem pads_len {t : Tr} (h : tryOK t = true) : (pad 32 6 (txt t.flow.toNat)).length = 6 ∧ (pad 32 7 (txt t.pour.toNat)).length = 7 ∧ (pad 32 7 (txt t.shown.toNat)).length = 7 := by
 unfold tryOK at h
 simp only [Bool.and_eq_true, inD_iff] at h
 exact ⟨pad_len _ (txt_len (by omega) (by omega)), pad_len _ (txt_len (by omega) (by omega)), pad_len _ (txt_len (by omega) (by omega))⟩
theorem row_len {t : Tr} (h : tryOK t = true) : (rowT t).length = 22 := by
 obtain ⟨a, b, c⟩ := pads_len h
 unfold rowT
 simp only [List.length_append, List.length_cons, a, b, c]
theorem three_pieces {a b c : Bs} {x y : UInt8} (ha : a.length = 6) (hb : b.length = 7) (hc : c.length = 7) (r : Bs) :
  (a ++ x :: (b ++ y :: c) ++ r).take 6 = a ∧ ((a ++ x :: (b ++ y :: c) ++ r).drop 7).take 7 = b ∧ ((a ++ x :: (b ++ y :: c) ++ r).drop 15).take 7 = c ∧ (a ++ x :: (b ++ y :: c) ++ r)[6]? = some x ∧ (a ++ x :: (b ++ y :: c) ++ r)[14]? = some y := by
 have e1 : a ++ x :: (b ++ y :: c) ++ r = a ++ (x :: (b ++ y :: c) ++ r) := by simp
 have e2 : a ++ x :: (b ++ y :: c) ++ r = (a ++ [x]) ++ (b ++ (y :: c ++ r)) := by simp
 have e3 : a ++ x :: (b ++ y :: c) ++ r = (a ++ [x] ++ b ++ [y]) ++ (c ++ r) := by simp
 refine ⟨?_, ?_, ?_, ?_, ?_⟩
 ·rw [e1, List.take_left' ha]
 ·rw [e2, List.drop_left' (by simp [ha]), List.take_left' hb]
 ·rw [e3, List.drop_left' (by simp [ha, hb]), List.take_left' hc]
 ·rw [e1, List.getElem?_append_right (by omega), ha]; rfl
 ·rw [show a ++ x :: (b ++ y :: c) ++ r = (a ++ [x] ++ b) ++ (y :: (c ++ r)) by simp, List.getElem?_append_right (by simp [ha, hb]), show 14 - (a ++ [x] ++ b).length = 0 by simp [ha, hb]]; rfl
theorem of_pieces {h : Bs} (hl : h.length = 22) (h6 : h[6]? = some 32) (h14 : h[14]? = some 32) : h = (pieces h).1 ++ 32 :: ((pieces h).2.1 ++ 32 :: (pieces h).2.2) := by
 obtain ⟨l6, e6⟩ := List.getElem?_eq_some_iff.1 h6
 obtain ⟨l14, e14⟩ := List.getElem?_eq_some_iff.1 h14
 have a1 := List.take_append_drop 6 h
 have a2 := List.drop_eq_getElem_cons l6
 have a3 := List.take_append_drop 7 (h.drop 7)
 have a4 := List.drop_eq_getElem_cons l14
 rw [List.drop_drop] at a3
 have a5 : (h.drop 15).take 7 = h.drop 15 := List.take_of_length_le V170
 unfold pieces
 simp only
 rw [a5]
 rw [e6] at a2
 rw [e14] at a4
 simp only [Nat.reduceAdd] at a2 a3 a4
 rw [← a4, a3, ← a2, a1]
theorem meterP_head {m : Int} (h1 : 1 ≤ m) (h2 : m ≤ 999999) : meterP (headSh m) = some m := by
 unfold meterP
 have e : (headSh m).drop 1 = pad 48 6 (txt m.toNat) := rfl
 rw [e, dw_pad_txt0 _ _ (by omega), valD_txt, if_pos ⟨head_len (by omega) h2, figOK_txt (by omega), rfl⟩]
 congr 1; omega
theorem meterP_of {h : Bs} {m : Int} (hh : h.head? = some 35) (e : meterP h = some m) : h = headSh m := by
 unfold meterP at e
 split at e
 ·next hc =>
  simp only [Option.some.injEq] at e
  obtain ⟨h1, h2, h3⟩ := hc
  subst e
  unfold headSh
  rw [Int.toNat_natCast, h3]
  cases h with
  | nil => simp at h1
  | cons a l => simp at hh; subst hh; rfl
 ·cases e
theorem tryP_row {t : Tr} (h : tryOK t = true) : tryP (rowT t) = some t := by
 obtain ⟨a, b, c⟩ := pads_len h
 obtain ⟨p1, p2, p3, p4, p5⟩ := three_pieces (x := 32) (y := 32) a b c []
 rw [List.append_nil] at p1 p2 p3 p4 p5
 have hp : pieces (rowT t) = (pad 32 6 (txt t.flow.toNat), pad 32 7 (txt t.pour.toNat), pad 32 7 (txt t.shown.toNat)) := by unfold pieces rowT; rw [p1, p2, p3]
 have h' := h
 unfold tryOK at h'
 simp only [Bool.and_eq_true, inD_iff] at h'
 unfold tryP
 rw [hp]
 simp only [dw_pad_txt, valD_txt]
 rw [if_pos ⟨⟨row_len h, p4, p5⟩, ⟨figOK_txt (by omega), figOK_txt (by omega), figOK_txt (by omega)⟩, by simp⟩]
 congr 1
 obtain ⟨x, y, z⟩ := t
 simp only at h' ⊢
 rw [Tr.mk.injEq]
 omega
theorem tryP_of {h : Bs} {t : Tr} (e : tryP h = some t) : h = rowT t := by
 unfold tryP at e
 split at e
 ·next hc =>
  simp only [Option.some.injEq] at e
  obtain ⟨⟨h1, h2, h3⟩, _, h7, h8, h9⟩ := hc
  subst e
  unfold rowT
  simp only [Int.toNat_natCast]
  rw [h7, h8, h9]
  exact of_pieces h1 h2 h3
 ·cases e
theorem row_head {t : Tr} : (rowT t).head? ≠ some 35 := by
 have hd : ∀ (n w : Nat) (r : Bs), (pad 32 w (txt n) ++ r).head? ≠ some 35 := fun n w r h => by
  unfold pad at h
  rw [List.append_assoc] at h
  rcases Nat.eq_zero_or_pos (w - (txt n).length) with e | e
  ·rw [e] at h
   cases hx : txt n with
   | nil => exact absurd hx (txt_ne n)
   | cons a l =>
    rw [hx] at h
    simp at h
    have := List.all_eq_true.1 (txt_all n) a (by rw [hx]; simp)
    subst h
    exact absurd this (by decide)
  ·obtain ⟨k, hk⟩ : ∃ k, w - (txt n).length = k + 1 := ⟨_, (Nat.succ_pred_eq_of_pos e).symm⟩
   rw [hk, List.replicate_succ] at h
   simp at h
 exact hd _ _ _
theorem full_head {h : Bs} (h0 : h ≠ []) : (full h).head? = h.head? := by
 cases h with
 | nil => exact absurd rfl h0
 | cons a l => rfl
section fold
variable {f : List Sh → Bs → Option (List Sh)}
theorem fold_tries (hT : ∀ l x t, tryOK t = true → f (l ++ [x]) (full (rowT t)) = some (l ++ [⟨x.meter, x.tries ++ [t]⟩])) (l : List Sh) : ∀ (ts : List Tr) (x : Sh), ts.all tryOK = true → (ts.map fun t => full (rowT t)).foldlM f (l ++ [x]) = some (l ++ [⟨x.meter, x.tries ++ ts⟩])
 | [], x, _ => by simp
 | t :: ts, x, h => by
  simp only [List.all_cons, Bool.and_eq_true] at h
  rw [List.map_cons, List.foldlM_cons, hT l x t h.1]
  show List.foldlM f _ _ = _
  rw [fold_tries hT l ts _ h.2]
  simp
theorem fold_sheets (hH : ∀ l m, 1 ≤ m → m ≤ 999999 → f l (full (headSh m)) = some (l ++ [⟨m, []⟩])) (hT : ∀ l x t, tryOK t = true → f (l ++ [x]) (full (rowT t)) = some (l ++ [⟨x.meter, x.tries ++ [t]⟩])) :
  ∀ (ls l : List Sh), ls.all sheetOK = true → (linesSs ls).foldlM f l = some (l ++ ls)
 | [], l, _ => by simp [linesSs]
 | x :: ls, l, h => by
  simp only [List.all_cons, Bool.and_eq_true] at h
  have hx := h.1
  unfold sheetOK at hx
  simp only [Bool.and_eq_true, inD_iff] at hx
  have e : linesSs (x :: ls) = full (headSh x.meter) :: ((x.tries.map fun t => full (rowT t)) ++ linesSs ls) := by simp [linesSs, linesS]
  rw [e, List.foldlM_cons, hH l x.meter hx.1.1.1 hx.1.1.2]
  show List.foldlM f _ _ = _
  rw [List.foldlM_append, fold_tries hT l x.tries _ hx.2]
  show List.foldlM f _ _ = _
  rw [List.nil_append, fold_sheets hH hT ls _ h.2]
  simp
end fold
theorem stepP_head (l : List Sh) (m : Int) (h1 : 1 ≤ m) (h2 : m ≤ 999999) : stepP l (full (headSh m)) = some (l ++ [⟨m, []⟩]) := by
 have h0 : headSh m ≠ [] := by simp [headSh]
 unfold stepP
 rw [if_pos (chkOK_full h0), if_pos (by rw [full_head h0]; rfl), full_len, show (headSh m).length + 2 - 2 = (headSh m).length by omega, full_take, meterP_head h1 h2]
 rfl
theorem stepP_try (l : List Sh) (x : Sh) (t : Tr) (h : tryOK t = true) : stepP (l ++ [x]) (full (rowT t)) = some (l ++ [⟨x.meter, x.tries ++ [t]⟩]) := by
 have h0 : rowT t ≠ [] := by simp [rowT]
 unfold stepP
 rw [if_pos (chkOK_full h0), if_neg (by rw [full_head h0]; exact row_head), if_neg (by simp), full_len, show (rowT t).length + 2 - 2 = (rowT t).length by omega, full_take, tryP_row h]
 show some (addT _ t) = _
 rw [addT_snoc]
theorem strict_sheets {l : List Sh} (h : sheetsE l = 0) : strictS (sheetsB l) = some l := by
 obtain ⟨_, hok, _⟩ := errB_ok h
 unfold strictS sheetsB
 rw [lines_ends free_lines]
 show List.foldlM stepP [] _ = _
 rw [fold_sheets stepP_head stepP_try l [] hok]; rfl
theorem stepP_lines {l l' : List Sh} {own : Bs} (h : stepP l own = some l') : linesSs l' = linesSs l ++ [own] := by
 unfold stepP at h
 split at h
 ·next hc =>
  have hf := chkOK_iff hc
  split at h
  ·next hh =>
   obtain ⟨m, hm, rfl⟩ := Option.map_eq_some_iff.1 h
   have hn : own.take (own.length - 2) ≠ [] := by
    intro e
    rw [e] at hf
    rw [hf] at hh
    simp [full] at hh
   have hh' : (own.take (own.length - 2)).head? = some 35 := by rw [← full_head hn, ← hf]; exact hh
   rw [meterP_of hh' hm] at hf
   rw [linesSs_app]
   simp [linesSs, linesS, ← hf]
  ·split at h
   ·cases h
   ·next hn =>
    obtain ⟨t, ht, rfl⟩ := Option.map_eq_some_iff.1 h
    rw [tryP_of ht] at hf
    obtain ⟨a, b, rfl⟩ : ∃ a b, l = a ++ [b] := ⟨l.dropLast, l.getLast hn, (List.dropLast_concat_getLast hn).symm⟩
    rw [addT_snoc, linesSs_app, linesSs_app, List.append_assoc]
    simp [linesSs, linesS, ← hf]
 ·cases h
theorem foldP_lines : ∀ (ls : List Bs) (l l' : List Sh), ls.foldlM stepP l = some l' → linesSs l' = linesSs l ++ ls
 | [], l, l', h => by simp at h; subst h; simp
 | x :: ls, l, l', h => by
  rw [List.foldlM_cons] at h
  obtain ⟨l1, h1, h2⟩ := Option.bind_eq_some_iff.1 h
  rw [foldP_lines ls l1 l' h2, stepP_lines h1]; simp
theorem strict_back {text : Bs} {l : List Sh} (h : strictS text = some l) : sheetsB l = text := by
 unfold strictS at h
 obtain ⟨ls, h1, h2⟩ := Option.bind_eq_some_iff.1 h
 have := foldP_lines ls [] l h2
 unfold sheetsB
 rw [this, lines_back h1]; rfl
theorem parseS_iff {text : Bs} {l : List Sh} : parseS text = some l ↔ sheetsE l = 0 ∧ sheetsB l = text := by
 unfold parseS
 constructor
 ·intro h
  split at h
  ·next hs =>
   split at h
   ·next hc => cases h; exact ⟨hc, strict_back hs⟩
   ·cases h
  ·cases h
 ·rintro ⟨h1, h2⟩
  subst h2
  rw [strict_sheets h1]
  simp only
  rw [if_pos h1]
end Go.Bk
namespace Go.Bk
structure Pg where
 house : Int
 reads : List Int
 deriving DecidableEq, Inhabited
def sortB : List Int → Bool
 | a :: b :: l => decide (a ≤ b) && sortB (b :: l)
 | _ => true
def pageOK (x : Pg) : Bool := inD x.house 0 9999 && decide (x.reads.length ≤ 16) && x.reads.all (fun n => inD n 0 1073741824) && sortB x.reads
def pagesE (l : List Pg) : Int := errB l.length 32 (l.all pageOK) (rises (l.map Pg.house))
def diffs : List Int → List Int
 | a :: b :: l => (b - a) :: diffs (b :: l)
 | _ => []
def pushR (out : List (Nat × Int)) (d : Int) : List (Nat × Int) := match out.getLast? with
 | some (n, e) => if e = d then out.dropLast ++ [(n + 1, e)] else out ++ [(1, d)]
 | none => [(1, d)]
def runs (ds : List Int) : List (Nat × Int) := ds.foldl pushR []
def gword (g : Nat × Int) : Bs := if g.1 = 1 then txt g.2.toNat else txt g.1 ++ 120 :: txt g.2.toNat
def wordsG (x : Pg) : List Bs := txt x.house.toNat :: match x.reads with
 | [] => []
 | r :: _ => txt r.toNat :: (runs (diffs x.reads)).map gword
def blanks : List Bs → Bs
 | [] => []
 | [a] => a
 | a :: b :: l => a ++ 32 :: blanks (b :: l)
def pageLine (x : Pg) : Bs := blanks (wordsG x)
def pagesB (l : List Pg) : Bs := ends 10 (l.map pageLine)
def wPages (l : List Pg) : Bs := if pagesE l = 0 then pagesB l else []
theorem pagesB_app (a b : List Pg) : pagesB (a ++ b) = pagesB a ++ pagesB b := by unfold pagesB; rw [List.map_append, ends_app]
theorem blanks_cons (a : Bs) {l : List Bs} (h : l ≠ []) : blanks (a :: l) = a ++ 32 :: blanks l := by
 cases l with
 | nil => exact absurd rfl h
 | cons b l => rfl
theorem cut_blanks : ∀ (ws : List Bs), ws ≠ [] → (∀ w ∈ ws, (32 : UInt8) ∉ w) → cutB 32 (blanks ws) = ws
 | [], h, _ => absurd rfl h
 | [a], _, h => cutB_none 32 a (h a (by simp))
 | a :: b :: l, _, h => by
  rw [blanks_cons a (by simp), cutB_app 32 a _ (h a (by simp)), cut_blanks (b :: l) (by simp) (fun w hw => h w (by simp [hw]))]
theorem blanks_cut (l : Bs) : blanks (cutB 32 l) = l := by
 have h : ∀ ws : List Bs, ws ≠ [] → ends 32 ws = blanks ws ++ [32] := by
  intro ws
  induction ws with
  | nil => exact fun h => absurd rfl h
  | cons a ws ih =>
   intro _
   by_cases h0 : ws = []
   ·subst h0; simp [ends, blanks]
   ·rw [ends_cons, ih h0, blanks_cons a h0]; simp
 exact List.append_cancel_right ((h _ (cutB_ne 32 l)).symm.trans (cutB_join 32 l))
theorem join_blanks : ∀ (ws : List Bs), Lib.join ws [32] = blanks ws
 | [] => rfl
 | [a] => Lib.join_one a _
 | a :: b :: l => by
  rw [blanks_cons a (by simp), ← join_blanks (b :: l), Lib.join_cons, Lib.join_cons]
  simp [Lib.joinTail]
theorem freex_txt (n : Nat) : (120 : UInt8) ∉ txt n := fun h => absurd (List.all_eq_true.1 (txt_all n) 120 h) (by decide)
theorem gword_free {c : UInt8} (hc : isDig c = false) (hx : c ≠ 120) (g : Nat × Int) : c ∉ gword g := by
 have ht : ∀ n, c ∉ txt n := fun n h => by rw [List.all_eq_true.1 (txt_all n) c h] at hc; cases hc
 unfold gword
 split
 ·exact ht _
 ·simp only [List.mem_append, List.mem_cons]
  rintro (h | h | h)
  ·exact ht _ h
  ·exact hx h
  ·exact ht _ h
theorem words_free {c : UInt8} (hc : isDig c = false) (hx : c ≠ 120) (x : Pg) : ∀ w ∈ wordsG x, c ∉ w := by
 have ht : ∀ n, c ∉ txt n := fun n h => by rw [List.all_eq_true.1 (txt_all n) c h] at hc; cases hc
 intro w hw
 unfold wordsG at hw
 rcases List.mem_cons.1 hw with h | h
 ·subst h; exact ht _
 ·split at h
  ·cases h
  ·rcases List.mem_cons.1 h with h | h
   ·subst h; exact ht _
   ·obtain ⟨g, _, rfl⟩ := List.mem_map.1 h; exact gword_free hc hx g
theorem blanks_free {c : UInt8} (hc : c ≠ 32) : ∀ (ws : List Bs), (∀ w ∈ ws, c ∉ w) → c ∉ blanks ws
 | [], _ => by simp [blanks]
 | [a], h => h a (by simp)
 | a :: b :: l, h => by
  rw [blanks_cons a (by simp), List.mem_append, List.mem_cons]
  rintro (h1 | h1 | h1)
  ·exact h a (by simp) h1
  ·exact hc h1
  ·exact blanks_free hc (b :: l) (fun w hw => h w (by simp [hw])) h1
theorem pageLine_free (x : Pg) : (10 : UInt8) ∉ pageLine x := blanks_free (by decide) _ (words_free (by decide) (by decide) x)
theorem pages_free {l : List Pg} : ∀ y ∈ l.map pageLine, (10 : UInt8) ∉ y := fun y h => by
 obtain ⟨x, _, rfl⟩ := List.mem_map.1 h; exact pageLine_free x
theorem words_ne (x : Pg) : wordsG x ≠ [] := by unfold wordsG; simp
theorem cut_page (x : Pg) : cutB 32 (pageLine x) = wordsG x := cut_blanks _ (words_ne x) (words_free (by decide) (by decide) x)
def lastD (l : List Int) : Int := l.getLast?.getD 0
def appN (d : Int) : Nat → List Int → List Int
 | 0, r => r
 | n + 1, r => appN d n (r ++ [lastD r + d])
theorem lastD_snoc (l : List Int) (x : Int) : lastD (l ++ [x]) = x := by simp [lastD]
theorem appN_len (d : Int) : ∀ (n : Nat) (r : List Int), (appN d n r).length = r.length + n
 | 0, _ => rfl
 | n + 1, r => by rw [appN, appN_len d n]; simp; omega
theorem appN_ne (d : Int) (n : Nat) {r : List Int} (h : r ≠ []) : appN d n r ≠ [] := by
 have := appN_len d n r
 have := List.length_pos_iff.2 h
 exact List.length_pos_iff.1 (by omega)
theorem appN_succ (d : Int) : ∀ (n : Nat) (r : List Int), appN d (n + 1) r = appN d n r ++ [lastD (appN d n r) + d]
 | 0, r => rfl
 | n + 1, r => by rw [appN, appN_succ d n, appN]
theorem diffs_snoc : ∀ (r : List Int) (x : Int), r ≠ [] → diffs (r ++ [x]) = diffs r ++ [x - lastD r]
 | [], _, h => absurd rfl h
 | [a], x, _ => by simp [diffs, lastD]
 | a :: b :: l, x, _ => by
  have := diffs_snoc (b :: l) x (by simp)
  rw [List.cons_append] at this
  simp only [List.cons_append, diffs, this]
  simp [lastD]
theorem diffs_len : ∀ (r : List Int), (diffs r).length = r.length - 1
 | [] => rfl
 | [_] => rfl
 | a :: b :: l => by simp [diffs, diffs_len (b :: l)]
theorem diffs_appN (d : Int) : ∀ (n : Nat) (r : List Int), r ≠ [] → diffs (appN d n r) = diffs r ++ List.replicate n d
 | 0, r, _ => by simp [appN]
 | n + 1, r, h => by
  rw [appN, diffs_appN d n _ (by simp), diffs_snoc r _ h, List.replicate_succ]
  simp; omega
def good : List (Nat × Int) → Prop
 | [] => True
 | [a] => 1 ≤ a.1
 | a :: b :: l => 1 ≤ a.1 ∧ a.2 ≠ b.2 ∧ good (b :: l)
theorem pushR_snoc (gs : List (Nat × Int)) (n : Nat) (e d : Int) : pushR (gs ++ [(n, e)]) d = if e = d then gs ++ [(n + 1, e)] else gs ++ [(n, e), (1, d)] := by
 unfold pushR; simp
theorem good_snoc : ∀ (gs : List (Nat × Int)) (g : Nat × Int), good (gs ++ [g]) ↔ good gs ∧ 1 ≤ g.1 ∧ ∀ h, gs.getLast? = some h → h.2 ≠ g.2
 | [], g => by simp [good]
 | [a], g => by
  simp only [List.cons_append, List.nil_append, good, List.getLast?_singleton, Option.some.injEq, forall_eq']
  constructor
  ·rintro ⟨h1, h2, h3⟩; exact ⟨h1, h3, h2⟩
  ·rintro ⟨h1, h2, h3⟩; exact ⟨h1, h3, h2⟩
 | a :: b :: l, g => by
  have ih := good_snoc (b :: l) g
  simp only [List.cons_append] at ih ⊢
  rw [good, good, ih]
  simp only [List.getLast?_cons_cons]
  constructor
  ·rintro ⟨h1, h2, h3, h4, h5⟩; exact ⟨⟨h1, h2, h3⟩, h4, h5⟩
  ·rintro ⟨⟨h1, h2, h3⟩, h4, h5⟩; exact ⟨h1, h2, h3, h4, h5⟩
def spread (gs : List (Nat × Int)) : List Int := (gs.map fun g => List.replicate g.1 g.2).flatten
theorem spread_snoc (gs : List (Nat × Int)) (g : Nat × Int) : spread (gs ++ [g]) = spread gs ++ List.replicate g.1 g.2 := by simp [spread]
theorem runs_snoc (ds : List Int) (d : Int) : runs (ds ++ [d]) = pushR (runs ds) d := by simp [runs]
theorem runs_good (ds : List Int) : good (runs ds) ∧ spread (runs ds) = ds := by
 induction ds using snocInd with
 | nil => exact ⟨trivial, rfl⟩
 | snoc ds d ih =>
  obtain ⟨h1, h2⟩ := ih
  rw [runs_snoc]
  by_cases h0 : runs ds = []
  ·rw [h0] at h2 ⊢
   rw [← h2]
   exact ⟨Nat.le_refl 1, rfl⟩
  ·obtain ⟨gs, ⟨n, e⟩, hg⟩ : ∃ a b, runs ds = a ++ [b] := ⟨_, _, (List.dropLast_concat_getLast h0).symm⟩
   rw [hg] at h1 h2 ⊢
   rw [pushR_snoc]
   rw [spread_snoc] at h2
   have hs := (good_snoc gs (n, e)).1 h1
   split
   ·next he =>
    subst he
    refine ⟨(good_snoc gs (n + 1, e)).2 ⟨hs.1, by simp, hs.2.2⟩, ?_⟩
    rw [spread_snoc, ← h2, List.append_assoc]
    simp [List.replicate_succ']
   ·next he =>
    rw [show gs ++ [(n, e), (1, d)] = (gs ++ [(n, e)]) ++ [(1, d)] by simp]
    refine ⟨(good_snoc _ _).2 ⟨h1, Nat.le_refl 1, fun h hh => ?_⟩, ?_⟩
    ·simp at hh; subst hh; exact he
    ·rw [spread_snoc, spread_snoc, h2]; rfl
theorem push_rep (gs : List (Nat × Int)) (d : Int) (h : ∀ g, gs.getLast? = some g → g.2 ≠ d) : ∀ n, (List.replicate (n + 1) d).foldl pushR gs = gs ++ [(n + 1, d)]
 | 0 => by
  show pushR gs d = _
  by_cases h0 : gs = []
  ·subst h0; rfl
  ·obtain ⟨a, ⟨k, e⟩, rfl⟩ : ∃ a b, gs = a ++ [b] := ⟨_, _, (List.dropLast_concat_getLast h0).symm⟩
   have he := h (k, e) (by simp)
   rw [pushR_snoc, if_neg he]; simp
 | n + 1 => by
  rw [List.replicate_succ', List.foldl_append, push_rep gs d h n]
  show pushR (gs ++ [(n + 1, d)]) d = _
  rw [pushR_snoc, if_pos rfl]
theorem runs_spread (gs : List (Nat × Int)) (h : good gs) : runs (spread gs) = gs := by
 induction gs using snocInd with
 | nil => rfl
 | snoc gs g ih =>
  obtain ⟨h1, h2, h3⟩ := (good_snoc gs g).1 h
  rw [spread_snoc]
  unfold runs
  rw [List.foldl_append]
  have := ih h1
  unfold runs at this
  rw [this]
  obtain ⟨n, d⟩ := g
  obtain ⟨k, rfl⟩ : ∃ k, n = k + 1 := ⟨n - 1, by simp at h2; omega⟩
  exact push_rep gs d h3 k
def growP (w : Bs) : Option (Nat × Int) := match cutB 120 w with
 | [a] => if figOK a = true then some (1, valD a) else none
 | a :: r => if (figOK a = true ∧ figOK (w.drop (a.length + 1)) = true) ∧ 2 ≤ valD a ∧ valD a ≤ 16 then some (valD a, valD (w.drop (a.length + 1))) else none
 | [] => none
structure St where
 reads : List Int
 last : Nat × Int
def wordP (s : St) (w : Bs) : Option St := (growP w).bind fun g => if (s.last.1 = 0 ∨ s.last.2 ≠ g.2) ∧ s.reads.length + g.1 ≤ 16 then some ⟨appN g.2 g.1 s.reads, g⟩ else none
def pageP (line : Bs) : Option Pg := match cutB 32 line with
 | [] => none
 | [h] => if figOK h = true then some ⟨valD h, []⟩ else none
 | h :: r :: ws => if figOK h = true ∧ figOK r = true then (ws.foldlM wordP ⟨[(valD r : Int)], (0, 0)⟩).map fun s => ⟨valD h, s.reads⟩ else none
def strictG (text : Bs) : Option (List Pg) := (linesP text).bind fun ls => ls.mapM pageP
def parseG (text : Bs) : Option (List Pg) := (strictG text).bind fun l => if pagesE l = 0 then some l else none
theorem growP_of {w : Bs} {g : Nat × Int} (h : growP w = some g) : w = gword g ∧ 1 ≤ g.1 := by
 unfold growP at h
 split at h
 ·next a ha =>
  split at h
  ·next hf =>
   cases h
   have : w = a := by
    have := cutB_join 120 w
    rw [ha, ends_cons, ends_nil] at this
    exact (List.append_cancel_right this).symm
   subst this
   exact ⟨by unfold gword; simp [fig_txt hf], Nat.le_refl 1⟩
  ·cases h
 ·next a r hne ha =>
  split at h
  ·next hc =>
   cases h
   obtain ⟨⟨h1, h2⟩, h3, h4⟩ := hc
   have hw : w = a ++ 120 :: w.drop (a.length + 1) := by
    have := cutB_join 120 w
    rw [ha, ends_cons] at this
    have hr : r ≠ [] := fun e => hne e
    have hl : (a ++ 120 :: ends 120 r).length = w.length + 1 := by rw [this]; simp
    have hp : 1 ≤ (ends 120 r).length := by
     cases r with
     | nil => exact absurd rfl hr
     | cons b r => rw [ends_cons]; simp; omega
    simp at hl
    have h1 : (w ++ [120]).take (a.length + 1) = a ++ [120] := by
     rw [← this, show a ++ 120 :: ends 120 r = (a ++ [120]) ++ ends 120 r by simp, List.take_left' (by simp)]
    have h2 : w.take (a.length + 1) = a ++ [120] := by rw [← h1, List.take_append_of_le_length (by omega)]
    have := List.take_append_drop (a.length + 1) w
    rw [h2] at this
    rw [← this]; simp
   refine ⟨?_, by simp; omega⟩
   unfold gword
   simp only [Int.toNat_natCast]
   rw [if_neg (by omega), fig_txt h1, fig_txt h2]; exact hw
  ·cases h
 ·cases h
theorem growP_word {n : Nat} {d : Int} (h1 : 1 ≤ n) (h2 : n ≤ 16) (h3 : 0 ≤ d) (h4 : d < 10 ^ 12) : growP (gword (n, d)) = some (n, d) := by
 have hd : ((d.toNat : Nat) : Int) = d := Int.toNat_of_nonneg h3
 unfold growP gword
 by_cases hn : n = 1
 ·subst hn
  simp only [if_true]
  rw [cutB_none 120 _ (freex_txt _)]
  simp only
  rw [if_pos (figOK_txt (by omega)), valD_txt, hd]
 ·simp only
  rw [if_neg hn, cutB_app 120 _ _ (freex_txt _), cutB_none 120 _ (freex_txt _)]
  simp only
  have e : (txt n ++ 120 :: txt d.toNat).drop ((txt n).length + 1) = txt d.toNat := by
   rw [show txt n ++ 120 :: txt d.toNat = (txt n ++ [120]) ++ txt d.toNat by simp, List.drop_left' (by simp)]
  rw [e, valD_txt, valD_txt, if_pos ⟨⟨figOK_txt (by omega), figOK_txt (by omega)⟩, by omega, h2⟩, hd]
theorem good_all : ∀ (gs : List (Nat × Int)), good gs → ∀ g ∈ gs, 1 ≤ g.1
 | [], _, _, h => by cases h
 | [a], h, g, hg => by simp at hg; subst hg; exact h
 | a :: b :: l, h, g, hg => by
  rcases List.mem_cons.1 hg with e | e
  ·subst e; exact h.1
  ·exact good_all (b :: l) h.2.2 g e
theorem wordP_runs {r0 : Int} : ∀ (ws : List Bs) (s s' : St) (gs : List (Nat × Int)), good gs → s.reads ≠ [] → s.reads.head? = some r0 → diffs s.reads = spread gs → (s.last = (0, 0) ∧ gs = [] ∨ gs.getLast? = some s.last) →
  ws.foldlM wordP s = some s' → ∃ gs', good gs' ∧ s'.reads ≠ [] ∧ s'.reads.head? = some r0 ∧ diffs s'.reads = spread gs' ∧ gs'.map gword = gs.map gword ++ ws
 | [], s, s', gs, hg, h0, hh, hd, _, h => by simp at h; subst h; exact ⟨gs, hg, h0, hh, hd, by simp⟩
 | w :: ws, s, s', gs, hg, h0, hh, hd, hl, h => by
  rw [List.foldlM_cons] at h
  obtain ⟨s1, h1, h2⟩ := Option.bind_eq_some_iff.1 h
  unfold wordP at h1
  obtain ⟨g, hgw, h3⟩ := Option.bind_eq_some_iff.1 h1
  split at h3
  ·next hc =>
   cases h3
   obtain ⟨hw, hn⟩ := growP_of hgw
   have hg' : good (gs ++ [g]) := (good_snoc gs g).2 ⟨hg, hn, fun k hk => by
    rcases hl with ⟨_, e⟩ | e
    ·subst e; cases hk
    ·rw [e] at hk
     cases hk
     rcases hc.1 with hz | hz
     ·have := good_all gs hg s.last (List.mem_of_getLast? e); omega
     ·exact hz⟩
   have hh' : (appN g.2 g.1 s.reads).head? = some r0 := by
    have : ∀ (n : Nat) (r : List Int), r.head? = some r0 → (appN g.2 n r).head? = some r0 := by
     intro n
     induction n with
     | zero => exact fun r h => h
     | succ n ih => intro r h; rw [appN]; apply ih; cases r with
      | nil => cases h
      | cons a l => exact h
    exact this _ _ hh
   obtain ⟨gs', a1, a2, a3, a4, a5⟩ := wordP_runs ws _ s' (gs ++ [g]) hg' (appN_ne _ _ h0) hh' (by rw [diffs_appN _ _ _ h0, hd, spread_snoc]) (.inr (by simp)) h2
   exact ⟨gs', a1, a2, a3, a4, by rw [a5, hw]; simp⟩
  ·cases h3
theorem pageP_line {line : Bs} {x : Pg} (h : pageP line = some x) : line = pageLine x := by
 unfold pageP at h
 rw [← blanks_cut line]
 unfold pageLine
 split at h
 ·cases h
 ·next a ha =>
  split at h
  ·next hf => cases h; rw [ha]; unfold wordsG; simp [fig_txt hf]
  ·cases h
 ·next a r ws ha =>
  split at h
  ·next hf =>
   obtain ⟨s, hs, rfl⟩ := Option.map_eq_some_iff.1 h
   obtain ⟨gs, h1, h2, h3, h4, h5⟩ := wordP_runs (r0 := (valD r : Int)) ws _ s [] trivial (by simp) rfl rfl (.inl ⟨rfl, rfl⟩) hs
   rw [ha]
   unfold wordsG
   cases hr : s.reads with
   | nil => exact absurd hr h2
   | cons b l =>
    rw [hr] at h3 h4
    simp only [List.head?_cons, Option.some.injEq] at h3
    rw [← hr] at h4
    simp only [hr, h3, Int.toNat_natCast, fig_txt hf.1, fig_txt hf.2]
    rw [← h3, ← hr, h4, runs_spread gs h1, h5]
    rfl
  ·cases h
theorem mapM_lines : ∀ (ls : List Bs) (l : List Pg), ls.mapM pageP = some l → ls = l.map pageLine
 | [], l, h => by simp at h; subst h; rfl
 | x :: ls, l, h => by
  rw [List.mapM_cons] at h
  obtain ⟨p, h1, h2⟩ := Option.bind_eq_some_iff.1 h
  obtain ⟨ps, h3, h4⟩ := Option.bind_eq_some_iff.1 h2
  simp at h4; subst h4
  rw [List.map_cons, ← pageP_line h1, ← mapM_lines ls ps h3]
theorem strictG_back {text : Bs} {l : List Pg} (h : strictG text = some l) : pagesB l = text := by
 unfold strictG at h
 obtain ⟨ls, h1, h2⟩ := Option.bind_eq_some_iff.1 h
 unfold pagesB
 rw [← mapM_lines ls l h2, ← lines_back h1]
theorem reads_of : ∀ (gs : List (Nat × Int)) (r r' : List Int), r ≠ [] → (∃ t, r' = r ++ t) → diffs r' = diffs r ++ spread gs → gs.foldl (fun a g => appN g.2 g.1 a) r = r' := by
 have key : ∀ (t : List Int) (r : List Int) , r ≠ [] → ∀ ds, diffs (r ++ t) = diffs r ++ ds → t.length = ds.length := by
  intro t r h0 ds h
  have := congrArg List.length h
  rw [List.length_append, diffs_len, diffs_len, List.length_append] at this
  have := List.length_pos_iff.2 h0
  omega
 have one : ∀ (d : Int) (n : Nat) (r t : List Int), r ≠ [] → ∀ ds, diffs (r ++ t) = diffs r ++ (List.replicate n d ++ ds) → ∃ t', r ++ t = appN d n r ++ t' := by
  intro d n
  induction n with
  | zero => exact fun r t _ ds _ => ⟨t, rfl⟩
  | succ n ih =>
   intro r t h0 ds h
   cases t with
   | nil => have := key [] r h0 _ h; simp at this; omega
   | cons x t =>
    have e : r ++ x :: t = (r ++ [x]) ++ t := by simp
    have hx : x - lastD r = d := by
     have h' := h
     rw [e] at h'
     have hpre : ∀ (t : List Int) (q : List Int), q ≠ [] → ∃ z, diffs (q ++ t) = diffs q ++ z := by
      intro t
      induction t with
      | nil => exact fun q _ => ⟨[], by simp⟩
      | cons y t ih2 =>
       intro q hq
       obtain ⟨z, hz⟩ := ih2 (q ++ [y]) (by simp)
       refine ⟨(y - lastD q) :: z, ?_⟩
       rw [show q ++ y :: t = (q ++ [y]) ++ t by simp, hz, diffs_snoc q y hq]; simp
     obtain ⟨z, hz⟩ := hpre t (r ++ [x]) (by simp)
     rw [hz, diffs_snoc r x h0, List.append_assoc] at h'
     have := List.append_cancel_left h'
     rw [List.replicate_succ] at this
     simp at this
     exact this.1
    have hr : r ++ [x] = r ++ [lastD r + d] := by congr 2; omega
    rw [e]
    have := ih (r ++ [x]) t (by simp) ds (by
     rw [← e, h, diffs_snoc r x h0, hx, List.replicate_succ]; simp)
    rw [appN, ← hr]
    exact this
 intro gs
 induction gs with
 | nil =>
  intro r r' h0 ⟨t, ht⟩ h
  subst ht
  have := key t r h0 [] (by simpa [spread] using h)
  have : t = [] := List.eq_nil_of_length_eq_zero this
  subst this; simp
 | cons g gs ih =>
  intro r r' h0 ⟨t, ht⟩ h
  subst ht
  have hsp : spread (g :: gs) = List.replicate g.1 g.2 ++ spread gs := by simp [spread]
  rw [hsp] at h
  obtain ⟨t', ht'⟩ := one g.2 g.1 r t h0 _ h
  rw [List.foldl_cons]
  refine ih (appN g.2 g.1 r) _ (appN_ne _ _ h0) ⟨t', ht'⟩ ?_
  rw [h, diffs_appN _ _ _ h0, List.append_assoc]
theorem sort_diffs : ∀ (r : List Int), sortB r = true → ∀ d ∈ diffs r, 0 ≤ d
 | [], _, _, h => by cases h
 | [_], _, _, h => by cases h
 | a :: b :: l, hs, d, h => by
  simp only [sortB, Bool.and_eq_true, decide_eq_true_eq] at hs
  simp only [diffs] at h
  rcases List.mem_cons.1 h with e | e
  ·subst e; omega
  ·exact sort_diffs (b :: l) hs.2 d e
theorem diffs_le : ∀ (r : List Int), (∀ n ∈ r, inD n 0 1073741824 = true) → ∀ d ∈ diffs r, d ≤ 1073741824
 | [], _, _, h => by cases h
 | [_], _, _, h => by cases h
 | a :: b :: l, hs, d, h => by
  have ha := inD_iff.1 (hs a (by simp))
  have hb := inD_iff.1 (hs b (by simp))
  simp only [diffs] at h
  rcases List.mem_cons.1 h with e | e
  ·subst e; omega
  ·exact diffs_le (b :: l) (fun n hn => hs n (by simp [hn])) d e
theorem spread_mem {gs : List (Nat × Int)} (hg : good gs) {g : Nat × Int} (h : g ∈ gs) : g.2 ∈ spread gs := by
 have := good_all gs hg g h
 unfold spread
 exact List.mem_flatten.2 ⟨_, List.mem_map.2 ⟨g, h, rfl⟩, List.mem_replicate.2 ⟨by omega, rfl⟩⟩
def tot (gs : List (Nat × Int)) : Nat := (gs.map Prod.fst).sum
theorem spread_len (gs : List (Nat × Int)) : (spread gs).length = tot gs := by
 induction gs with
 | nil => rfl
 | cons g gs ih => simp only [spread, tot, List.map_cons, List.flatten_cons, List.length_append, List.length_replicate, List.sum_cons] at ih ⊢; omega
structure PRuns (x : Pg) (r : Int) (gs : List (Nat × Int)) : Prop where
 good : good gs
 eq : runs (diffs x.reads) = gs
 reads : gs.foldl (fun a g => appN g.2 g.1 a) [r] = x.reads
 by0 : ∀ g ∈ gs, 0 ≤ g.2 ∧ g.2 ≤ 1073741824
 len : 1 + tot gs ≤ 16
theorem page_runs {x : Pg} (hx : pageOK x = true) {r : Int} {t : List Int} (hr : x.reads = r :: t) : PRuns x r (runs (diffs x.reads)) := by
 unfold pageOK at hx
 simp only [Bool.and_eq_true, decide_eq_true_eq] at hx
 obtain ⟨⟨⟨_, h2⟩, h3⟩, h4⟩ := hx
 obtain ⟨g1, g2⟩ := runs_good (diffs x.reads)
 have h3' := List.all_eq_true.1 h3
 refine ⟨g1, rfl, reads_of _ [r] x.reads (by simp) ⟨t, by rw [hr]; rfl⟩ (by rw [g2]; rfl), fun g hg => ?_, ?_⟩
 ·have hm : g.2 ∈ diffs x.reads := by
   have := spread_mem g1 hg
   rwa [g2] at this
  exact ⟨sort_diffs _ h4 _ hm, diffs_le _ h3' _ hm⟩
 ·have := spread_len (runs (diffs x.reads))
  rw [g2, diffs_len] at this
  rw [hr] at this h2 ⊢
  simp at this h2
  omega
theorem wordP_fold : ∀ (gs : List (Nat × Int)) (s : St), good gs → (∀ g ∈ gs, 0 ≤ g.2 ∧ g.2 ≤ 1073741824) → s.reads.length + tot gs ≤ 16 → (∀ g, gs.head? = some g → s.last.1 = 0 ∨ s.last.2 ≠ g.2) →
  ∃ q, (gs.map gword).foldlM wordP s = some ⟨gs.foldl (fun a g => appN g.2 g.1 a) s.reads, q⟩
 | [], s, _, _, _, _ => ⟨s.last, rfl⟩
 | (n, d) :: gs, s, hg, h0, hl, hd => by
  have hn : 1 ≤ n := good_all _ hg (n, d) (by simp)
  have hb := h0 (n, d) (by simp)
  have ht : tot ((n, d) :: gs) = n + tot gs := by simp [tot]
  rw [ht] at hl
  have e : wordP s (gword (n, d)) = some ⟨appN d n s.reads, (n, d)⟩ := by
   unfold wordP
   rw [growP_word hn (by omega) hb.1 (by simp at hb; omega)]
   show (if _ then _ else _) = _
   rw [if_pos ⟨hd (n, d) rfl, by simp; omega⟩]
  have hg' : good gs := by
   cases gs with
   | nil => trivial
   | cons b l => exact hg.2.2
  obtain ⟨q, hq⟩ := wordP_fold gs ⟨appN d n s.reads, (n, d)⟩ hg' (fun g hm => h0 g (by simp [hm])) (by simp only [appN_len]; omega) (fun g hh => by
   cases gs with
   | nil => cases hh
   | cons b l => simp at hh; subst hh; exact .inr hg.2.1)
  refine ⟨q, ?_⟩
  rw [List.map_cons, List.foldlM_cons, e]
  exact hq
theorem pageP_page {x : Pg} (h : pageOK x = true) : pageP (pageLine x) = some x := by
 have h' := h
 unfold pageOK at h'
 simp only [Bool.and_eq_true, decide_eq_true_eq, inD_iff] at h'
 obtain ⟨⟨⟨h1, h2⟩, h3⟩, h4⟩ := h'
 have hh : ((x.house.toNat : Nat) : Int) = x.house := Int.toNat_of_nonneg h1.1
 unfold pageP
 rw [cut_page]
 unfold wordsG
 cases hr : x.reads with
 | nil =>
  simp only
  rw [if_pos (figOK_txt (by omega)), valD_txt, hh, ← hr]
 | cons r t =>
  have hp := page_runs h hr
  have hr0 := inD_iff.1 (List.all_eq_true.1 h3 r (by rw [hr]; simp))
  have hrn : ((r.toNat : Nat) : Int) = r := Int.toNat_of_nonneg hr0.1
  simp only
  rw [if_pos ⟨figOK_txt (by omega), figOK_txt (by omega)⟩, valD_txt, valD_txt, hh, hrn, ← hr]
  obtain ⟨q, hq⟩ := wordP_fold (runs (diffs x.reads)) ⟨[r], (0, 0)⟩ hp.good hp.by0 (by have := hp.len; simp; omega) (fun _ _ => .inl rfl)
  rw [hq, hp.reads]
  rfl
theorem strict_pages {l : List Pg} (h : pagesE l = 0) : strictG (pagesB l) = some l := by
 have hok := (errB_ok h).2.1
 unfold strictG pagesB
 rw [lines_ends pages_free]
 show List.mapM pageP _ = _
 clear h
 induction l with
 | nil => rfl
 | cons x l ih =>
  simp only [List.all_cons, Bool.and_eq_true] at hok
  rw [List.map_cons, List.mapM_cons, pageP_page hok.1, ih hok.2]; rfl
theorem parseG_iff {text : Bs} {l : List Pg} : parseG text = some l ↔ pagesE l = 0 ∧ pagesB l = text := by
 unfold parseG
 constructor
 ·intro h
  obtain ⟨l', h1, h2⟩ := Option.bind_eq_some_iff.1 h
  split at h2
  ·next hc => cases h2; exact ⟨hc, strictG_back h1⟩
  ·cases h2
 ·rintro ⟨h1, h2⟩
  subst h2
  rw [strict_pages h1]
  show (if _ then _ else _) = _
  rw [if_pos h1]
end Go.Bk
namespace Go.Bk
abbrev Bits := List Bool
def numB : Nat → Nat → Bits
 | 0, _ => []
 | k + 1, n => numB k (n / 2) ++ [n % 2 == 1]
def valB (s : Bits) : Nat := s.foldl (fun n b => 2 * n + b.toNat) 0
theorem numB_len : ∀ (k n : Nat), (numB k n).length = k
 | 0, _ => rfl
 | k + 1, n => by simp [numB, numB_len k]
theorem valB_snoc (s : Bits) (b : Bool) : valB (s ++ [b]) = 2 * valB s + b.toNat := by simp [valB]
theorem toNat_beq (n : Nat) : (n % 2 == 1).toNat = n % 2 := by
 rcases Nat.mod_two_eq_zero_or_one n with h | h <;> rw [h] <;> rfl
theorem valB_numB : ∀ (k n : Nat), n < 2 ^ k → valB (numB k n) = n
 | 0, n, h => by simp at h; subst h; rfl
 | k + 1, n, h => by
  rw [numB, valB_snoc, valB_numB k (n / 2) (by rw [Nat.pow_succ] at h; omega), toNat_beq]; omega
theorem valB_lt (s : Bits) : valB s < 2 ^ s.length := by
 induction s using snocInd with
 | nil => simp [valB]
 | snoc s b ih =>
  rw [valB_snoc, List.length_append, List.length_singleton, Nat.pow_succ]
  have : b.toNat ≤ 1 := by cases b <;> decide
  omega
theorem numB_valB (s : Bits) : numB s.length (valB s) = s := by
 induction s using snocInd with
 | nil => rfl
 | snoc s b ih =>
  rw [List.length_append, List.length_singleton, numB, valB_snoc]
  have h1 : (2 * valB s + b.toNat) / 2 = valB s := by cases b <;> simp <;> omega
  have h2 : ((2 * valB s + b.toNat) % 2 == 1) = b := by cases b <;> simp <;> omega
  rw [h1, h2, ih]
theorem numB_add : ∀ (L a n : Nat), n < 2 ^ L → numB (a + L) n = List.replicate a false ++ numB L n
 | 0, 0, n, _ => rfl
 | 0, a + 1, n, h => by
  simp at h; subst h
  show numB a (0 / 2) ++ [false] = _
  rw [Nat.zero_div, List.replicate_succ']
  have := numB_add 0 a 0 (by simp)
  rw [Nat.add_zero] at this
  rw [this]; simp [numB]
 | L + 1, a, n, h => by
  rw [← Nat.add_assoc, numB, numB_add L a (n / 2) (by rw [Nat.pow_succ] at h; omega), numB, List.append_assoc]
theorem numB_top : ∀ (L n : Nat), 2 ^ L ≤ n → n < 2 ^ (L + 1) → numB (L + 1) n = true :: numB L n
  | 0, n, h1, h2 => by simp at h1 h2; have : n = 1 := by omega
                       subst this; rfl
  | L + 1, n, h1, h2 => by
    have h3 := numB_top L (n / 2) (by rw [Nat.pow_succ] at h1; omega) (by rw [Nat.pow_succ] at h2; omega)
    rw [numB, h3]; rfl
theorem numB_mod : ∀ (L n : Nat), numB L (n % 2 ^ L) = numB L n
 | 0, _ => rfl
 | L + 1, n => by
  have h1 : n % 2 ^ (L + 1) / 2 = n / 2 % 2 ^ L := by rw [Nat.pow_succ, Nat.mul_comm]; exact Nat.mod_mul_right_div_self ..
  have h2 : n % 2 ^ (L + 1) % 2 = n % 2 := Nat.mod_mod_of_dvd _ (by rw [Nat.pow_succ]; exact Nat.dvd_mul_left _ _)
  rw [numB, h1, h2, numB_mod L, numB]
def bl (n : Nat) : Nat := if h : n < 2 then 1 else bl (n / 2) + 1
termination_by n
decreasing_by omega
theorem bl_small {n : Nat} (h : n < 2) : bl n = 1 := by rw [bl, dif_pos h]
theorem bl_big {n : Nat} (h : ¬ n < 2) : bl n = bl (n / 2) + 1 := by rw [bl, dif_neg h]
theorem bl_spec (n : Nat) : 1 ≤ bl n ∧ n < 2 ^ bl n ∧ (1 ≤ n → 2 ^ (bl n - 1) ≤ n) := by
 induction n using Nat.strongRecOn with
 | _ n ih =>
  by_cases h : n < 2
  ·rw [bl_small h]; refine ⟨Nat.le_refl _, by simpa using h, fun h1 => by simpa using h1⟩
  ·obtain ⟨h1, h2, h3⟩ := ih (n / 2) (by omega)
   rw [bl_big h]
   refine ⟨by omega, by rw [Nat.pow_succ]; omega, fun _ => ?_⟩
   have := h3 (by omega)
   obtain ⟨k, hk⟩ : ∃ k, bl (n / 2) = k + 1 := ⟨bl (n / 2) - 1, by omega⟩
   rw [hk] at this ⊢
   simp only [Nat.add_sub_cancel] at this ⊢
   rw [Nat.pow_succ]; omega
theorem bl_le {n k : Nat} (h : n < 2 ^ k) (hk : 1 ≤ k) : bl n ≤ k := by
 obtain ⟨h1, _, h3⟩ := bl_spec n
 rcases Nat.eq_zero_or_pos n with e | e
 ·rw [e, bl_small (by omega)]; exact hk
 ·refine Nat.le_of_not_lt fun hlt => ?_
  have h4 := h3 e
  have := Nat.pow_le_pow_right (show 0 < 2 by omega) (show k ≤ bl n - 1 by omega)
  omega
theorem bl_unique {n k : Nat} (h1 : 2 ^ k ≤ n) (h2 : n < 2 ^ (k + 1)) : bl n = k + 1 := by
 have a := bl_le h2 (by omega)
 obtain ⟨h3, h4, _⟩ := bl_spec n
 refine Nat.le_antisymm a (Nat.le_of_not_lt fun hlt => ?_)
 have := Nat.pow_le_pow_right (show 0 < 2 by omega) (show bl n ≤ k by omega)
 omega
theorem bl_bitLen {n : Nat} (h1 : 1 ≤ n) (h2 : n < 18446744073709551616) : Lib.bitLen n = bl n := by
 obtain ⟨a, b, c⟩ := Lib.bitLenAux_bounds 64 n h2 (by omega)
 unfold Lib.bitLen
 generalize Lib.bitLenAux 64 n = L at a b c
 obtain ⟨k, rfl⟩ : ∃ k, L = k + 1 := ⟨L - 1, by omega⟩
 exact (bl_unique b c).symm
def gammaB (n : Nat) : Bits := numB (2 * bl n - 1) n
theorem gammaB_eq {n : Nat} (h : 1 ≤ n) : gammaB n = List.replicate (bl n - 1) false ++ true :: numB (bl n - 1) n := by
 obtain ⟨h1, h2, h3⟩ := bl_spec n
 unfold gammaB
 rw [show 2 * bl n - 1 = (bl n - 1) + bl n by omega, numB_add _ _ _ h2]
 congr 1
 have := numB_top (bl n - 1) n (h3 h) (by rw [show bl n - 1 + 1 = bl n by omega]; exact h2)
 rw [show bl n - 1 + 1 = bl n by omega] at this
 exact this
structure Pl where
 num : Int
 cls : Int
 day : Int
 deriving DecidableEq, Inhabited
def plateOK (x : Pl) : Bool := inD x.num 1 65535 && inD x.cls 0 7 && inD x.day 0 131072
def platesE (l : List Pl) : Int := errB l.length 60 (l.all plateOK) (rises (l.map Pl.num))
def ones (s : Bits) : Nat := s.count true
theorem ones_app (a b : Bits) : ones (a ++ b) = ones a + ones b := List.count_append ..
def bodyB (x : Pl) (last : Int) : Bits := gammaB (x.num - last).toNat ++ (numB 3 x.cls.toNat ++ numB 18 x.day.toNat)
def parB (s : Bits) : Bool := ones s % 2 == 1
def plateB (x : Pl) (last : Int) : Bits := bodyB x last ++ [parB (bodyB x last)]
def goB : Int → List Pl → Bits
 | _, [] => []
 | last, x :: l => plateB x last ++ goB x.num l
def bitsB (l : List Pl) : Bits := numB 8 l.length ++ goB 0 l
def padB (s : Bits) : Bits := s ++ List.replicate ((8 - s.length % 8) % 8) false
def byteB (s : Bits) : UInt8 := UInt8.ofNat (valB s)
def packN : Nat → Bits → Bs
 | 0, _ => []
 | k + 1, s => byteB (s.take 8) :: packN k (s.drop 8)
def pack (s : Bits) : Bs := packN (s.length / 8) s
def platesBy (l : List Pl) : Bs := pack (padB (bitsB l))
def wPlates (l : List Pl) : Bs := if platesE l = 0 then platesBy l else []
def unp (b : Bs) : Bits := (b.map fun c => numB 8 c.toNat).flatten
theorem unp_len (b : Bs) : (unp b).length = 8 * b.length := by
 induction b with
 | nil => rfl
 | cons c b ih => simp only [unp, List.map_cons, List.flatten_cons, List.length_append, numB_len, List.length_cons] at ih ⊢; omega
theorem unp_packN : ∀ (k : Nat) (s : Bits), s.length = 8 * k → unp (packN k s) = s
 | 0, s, h => by
  have : s = [] := List.eq_nil_of_length_eq_zero (by omega)
  subst this; rfl
 | k + 1, s, h => by
  have h8 : (s.take 8).length = 8 := by rw [List.length_take]; omega
  have ih := unp_packN k (s.drop 8) (by rw [List.length_drop]; omega)
  unfold packN
  show numB 8 (byteB (s.take 8)).toNat ++ unp (packN k (s.drop 8)) = s
  rw [ih]
  have hv := valB_lt (s.take 8)
  rw [h8] at hv
  have : (byteB (s.take 8)).toNat = valB (s.take 8) := ofNat_toNat (by omega)
  have h2 := numB_valB (s.take 8)
  rw [h8] at h2
  rw [this, h2, List.take_append_drop]
theorem packN_unp : ∀ (b : Bs), packN b.length (unp b) = b
 | [] => rfl
 | c :: b => by
  show packN (b.length + 1) (numB 8 c.toNat ++ unp b) = _
  unfold packN
  rw [List.take_left' (numB_len 8 _), List.drop_left' (numB_len 8 _), packN_unp b]
  congr 1
  unfold byteB
  have := c.toNat_lt
  rw [valB_numB 8 _ (by omega)]
  simp
theorem pad_len8 (s : Bits) : ∃ k, (padB s).length = 8 * k := by
 refine ⟨(padB s).length / 8, ?_⟩
 unfold padB
 rw [List.length_append, List.length_replicate]
 omega
theorem unp_pack (s : Bits) : unp (pack (padB s)) = padB s := by
 obtain ⟨k, hk⟩ := pad_len8 s
 unfold pack
 rw [hk, show 8 * k / 8 = k by omega]
 exact unp_packN k _ hk
theorem unp_inj {a b : Bs} (h : unp a = unp b) : a = b := by
 have hl := congrArg List.length h
 rw [unp_len, unp_len] at hl
 rw [← packN_unp a, ← packN_unp b, h, show a.length = b.length by omega]
theorem pack_of {s : Bits} {b : Bs} (h : padB s = unp b) : pack (padB s) = b := unp_inj (by rw [unp_pack, h])
def takeB (k : Nat) (s : Bits) : Option (Nat × Bits) := if s.length < k then none else some (valB (s.take k), s.drop k)
theorem takeB_app {a r : Bits} {k : Nat} (h : a.length = k) : takeB k (a ++ r) = some (valB a, r) := by
 unfold takeB
 rw [if_neg (by rw [List.length_append]; omega), List.take_left' h, List.drop_left' h]
theorem takeB_of {k n : Nat} {s r : Bits} (h : takeB k s = some (n, r)) : s = numB k n ++ r ∧ n < 2 ^ k := by
 unfold takeB at h
 split at h
 ·cases h
 ·next hl =>
  cases h
  have hk : (s.take k).length = k := by rw [List.length_take]; omega
  have h1 := numB_valB (s.take k)
  have h2 := valB_lt (s.take k)
  rw [hk] at h1 h2
  rw [h1, List.take_append_drop]
  exact ⟨rfl, h2⟩
def gz : Nat → Bits → Option (Nat × Bits)
 | _, [] => none
 | _, true :: s => some (0, s)
 | 0, false :: _ => none
 | f + 1, false :: s => (gz f s).map fun p => (p.1 + 1, p.2)
def plateS (last : Int) (s : Bits) : Option (Pl × Bits) :=
 (gz 16 s).bind fun p => (takeB p.1 p.2).bind fun q => (takeB 3 q.2).bind fun c => (takeB 18 c.2).bind fun d => (takeB 1 d.2).bind fun e =>
  if ones (s.take (s.length - e.2.length)) % 2 = 0 then some (⟨last + ((2 ^ p.1 + q.1 : Nat) : Int), c.1, d.1⟩, e.2) else none
def platesS : Nat → Int → Bits → Option (List Pl × Bits)
 | 0, _, s => some ([], s)
 | n + 1, last, s => (plateS last s).bind fun p => (platesS n p.1.num p.2).bind fun q => some (p.1 :: q.1, q.2)
def parseP (b : Bs) : Option (List Pl) := (takeB 8 (unp b)).bind fun p => (platesS p.1 0 p.2).bind fun q =>
 if q.2.length < 8 ∧ platesE q.1 = 0 ∧ ones q.2 = 0 then some q.1 else none
theorem gz_rep : ∀ (z f : Nat) (s : Bits), z ≤ f → gz f (List.replicate z false ++ true :: s) = some (z, s)
 | 0, f, s, _ => by cases f <;> rfl
 | z + 1, 0, s, h => by omega
 | z + 1, f + 1, s, h => by rw [List.replicate_succ, List.cons_append, gz, gz_rep z f s (by omega)]; rfl
theorem gz_of : ∀ (f : Nat) (s : Bits) (z : Nat) (r : Bits), gz f s = some (z, r) → s = List.replicate z false ++ true :: r ∧ z ≤ f
 | f, [], z, r, h => by cases f <;> cases h
 | f, true :: s, z, r, h => by
  have : gz f (true :: s) = some (0, s) := by cases f <;> rfl
  rw [this] at h; cases h; exact ⟨rfl, Nat.zero_le _⟩
 | 0, false :: s, z, r, h => by cases h
 | f + 1, false :: s, z, r, h => by
  rw [gz] at h
  obtain ⟨⟨z', r'⟩, h1, h2⟩ := Option.map_eq_some_iff.1 h
  cases h2
  obtain ⟨h3, h4⟩ := gz_of f s z' r' h1
  exact ⟨by rw [h3, List.replicate_succ]; rfl, by omega⟩
def fits (x : Pl) (last : Int) : Prop := (1 ≤ x.num - last ∧ x.num - last ≤ 65535) ∧ (0 ≤ x.cls ∧ x.cls ≤ 7) ∧ 0 ≤ x.day ∧ x.day ≤ 131072
theorem ones_par (s : Bits) : ones (s ++ [parB s]) % 2 = 0 := by
 rw [ones_app]
 unfold parB
 have : ones [ones s % 2 == 1] = ones s % 2 := by
  rcases Nat.mod_two_eq_zero_or_one (ones s) with h | h <;> rw [h] <;> rfl
 rw [this]; omega
theorem plate_eta (x : Pl) (last : Int) (h : fits x last) : (⟨last + (((x.num - last).toNat : Nat) : Int), ((x.cls.toNat : Nat) : Int), ((x.day.toNat : Nat) : Int)⟩ : Pl) = x := by
 obtain ⟨h1, h2, h3⟩ := h
 obtain ⟨a, b, c⟩ := x
 simp only at h1 h2 h3 ⊢
 rw [Pl.mk.injEq]; omega
theorem plateS_plate {x : Pl} {last : Int} (h : fits x last) (r : Bits) : plateS last (plateB x last ++ r) = some (x, r) := by
 obtain ⟨h1, h2, h3⟩ := h
 have hn : 1 ≤ (x.num - last).toNat := by omega
 obtain ⟨b1, b2, b3⟩ := bl_spec (x.num - last).toNat
 have bk := bl_le (n := (x.num - last).toNat) (k := 16) (by omega) (by omega)
 have e : plateB x last ++ r = List.replicate (bl (x.num - last).toNat - 1) false ++ true :: (numB (bl (x.num - last).toNat - 1) (x.num - last).toNat ++ (numB 3 x.cls.toNat ++ (numB 18 x.day.toNat ++ ([parB (bodyB x last)] ++ r)))) := by
  unfold plateB
  rw [show bodyB x last ++ [parB (bodyB x last)] ++ r = bodyB x last ++ ([parB (bodyB x last)] ++ r) by simp]
  generalize [parB (bodyB x last)] ++ r = q
  unfold bodyB
  rw [gammaB_eq hn]; simp
 unfold plateS
 rw [e, gz_rep _ _ _ (by omega)]
 simp only [Option.bind_some]
 rw [takeB_app (numB_len _ _)]
 simp only [Option.bind_some]
 rw [takeB_app (numB_len _ _)]
 simp only [Option.bind_some]
 rw [takeB_app (numB_len _ _)]
 simp only [Option.bind_some]
 rw [takeB_app (k := 1) (a := [parB (bodyB x last)]) rfl]
 simp only [Option.bind_some]
 rw [← e, show (plateB x last ++ r).take ((plateB x last ++ r).length - r.length) = plateB x last by rw [List.length_append, Nat.add_sub_cancel, List.take_left]]
 unfold plateB
 rw [if_pos (ones_par _)]
 have hv : 2 ^ (bl (x.num - last).toNat - 1) + valB (numB (bl (x.num - last).toNat - 1) (x.num - last).toNat) = (x.num - last).toNat := by
  rw [← numB_mod, valB_numB _ _ (Nat.mod_lt _ (Nat.two_pow_pos _))]
  have hq : (x.num - last).toNat / 2 ^ (bl (x.num - last).toNat - 1) = 1 := by
   have := b3 hn
   have h4 : (x.num - last).toNat < 2 * 2 ^ (bl (x.num - last).toNat - 1) := by
    rw [Nat.mul_comm, ← Nat.pow_succ, show (bl (x.num - last).toNat - 1).succ = bl (x.num - last).toNat by omega]; exact b2
   exact Nat.div_eq_of_lt_le (by omega) (by omega)
  have := Nat.div_add_mod (x.num - last).toNat (2 ^ (bl (x.num - last).toNat - 1))
  rw [hq] at this; omega
 rw [hv, valB_numB 3 _ (by omega), valB_numB 18 _ (by omega), plate_eta x last ⟨h1, h2, h3⟩]
theorem plateS_of {last : Int} {s r : Bits} {x : Pl} (h : plateS last s = some (x, r)) : s = plateB x last ++ r := by
 unfold plateS at h
 obtain ⟨⟨z, s1⟩, h1, h⟩ := Option.bind_eq_some_iff.1 h
 obtain ⟨⟨v, s2⟩, h2, h⟩ := Option.bind_eq_some_iff.1 h
 obtain ⟨⟨c, s3⟩, h3, h⟩ := Option.bind_eq_some_iff.1 h
 obtain ⟨⟨d, s4⟩, h4, h⟩ := Option.bind_eq_some_iff.1 h
 obtain ⟨⟨p, s5⟩, h5, h⟩ := Option.bind_eq_some_iff.1 h
 simp only at h2 h3 h4 h5 h
 split at h
 ·next hp =>
  simp only [Option.some.injEq, Prod.mk.injEq] at h
  obtain ⟨hx, hr⟩ := h
  subst hr
  obtain ⟨e1, k1⟩ := gz_of _ _ _ _ h1
  obtain ⟨e2, k2⟩ := takeB_of h2
  obtain ⟨e3, k3⟩ := takeB_of h3
  obtain ⟨e4, k4⟩ := takeB_of h4
  obtain ⟨e5, k5⟩ := takeB_of h5
  have hn : (x.num - last).toNat = 2 ^ z + v := by rw [← hx]; simp only; omega
  have hc : x.cls.toNat = c := by rw [← hx]; simp
  have hd : x.day.toNat = d := by rw [← hx]; simp
  have hbl : bl (2 ^ z + v) = z + 1 := bl_unique (by omega) (by rw [Nat.pow_succ]; omega)
  have hg : gammaB (2 ^ z + v) = List.replicate z false ++ true :: numB z v := by
   rw [gammaB_eq (by have := Nat.two_pow_pos z; omega), hbl, Nat.add_sub_cancel]
   congr 2
   rw [← numB_mod z (2 ^ z + v), Nat.add_mod_left, Nat.mod_eq_of_lt k2]
  have hb : s = bodyB x last ++ (numB 1 p ++ s5) := by
   unfold bodyB
   rw [hn, hc, hd, hg, e1, e2, e3, e4, e5]; simp
  have hs : s.take (s.length - s5.length) = bodyB x last ++ numB 1 p := by
   rw [hb, ← List.append_assoc, List.length_append, Nat.add_sub_cancel, List.take_left]
  rw [hs] at hp
  have hpar : numB 1 p = [parB (bodyB x last)] := by
   have : numB 1 p = [p % 2 == 1] := rfl
   rw [this] at hp ⊢
   rw [ones_app] at hp
   unfold parB
   congr 1
   have ho : ones [p % 2 == 1] = p % 2 := by rcases Nat.mod_two_eq_zero_or_one p with h | h <;> rw [h] <;> rfl
   rw [ho] at hp
   rcases Nat.mod_two_eq_zero_or_one p with h6 | h6 <;> rcases Nat.mod_two_eq_zero_or_one (ones (bodyB x last)) with h7 | h7 <;> rw [h6, h7] <;> omega
  unfold plateB
  rw [hb, hpar]; simp
 ·cases h
theorem platesS_of : ∀ (n : Nat) (last : Int) (s r : Bits) (l : List Pl), platesS n last s = some (l, r) → s = goB last l ++ r ∧ l.length = n
 | 0, last, s, r, l, h => by cases h; exact ⟨rfl, rfl⟩
 | n + 1, last, s, r, l, h => by
  unfold platesS at h
  obtain ⟨⟨x, s1⟩, h1, h⟩ := Option.bind_eq_some_iff.1 h
  obtain ⟨⟨l1, r1⟩, h2, h⟩ := Option.bind_eq_some_iff.1 h
  simp only [Option.some.injEq, Prod.mk.injEq] at h
  obtain ⟨rfl, rfl⟩ := h
  obtain ⟨e, hl⟩ := platesS_of n x.num s1 r1 l1 h2
  refine ⟨?_, by simp [hl]⟩
  rw [plateS_of h1, e, goB, List.append_assoc]
def chain : Int → List Pl → Prop
 | _, [] => True
 | last, x :: l => fits x last ∧ chain x.num l
theorem chain_of : ∀ (l : List Pl) (last : Int), 0 ≤ last → l.all plateOK = true → rises (last :: l.map Pl.num) = true → chain last l
 | [], _, _, _, _ => trivial
 | x :: l, last, h0, hok, hr => by
  simp only [List.all_cons, Bool.and_eq_true] at hok
  have hx := hok.1
  unfold plateOK at hx
  simp only [Bool.and_eq_true, inD_iff] at hx
  simp only [List.map_cons, rises, Bool.and_eq_true, decide_eq_true_eq] at hr
  exact ⟨⟨by omega, by omega, by omega⟩, chain_of l x.num (by omega) hok.2 hr.2⟩
theorem chain_ok {l : List Pl} (h : platesE l = 0) : chain 0 l ∧ l.length ≤ 60 := by
 obtain ⟨h1, h2, h3⟩ := errB_ok h
 refine ⟨chain_of l 0 (by omega) h2 ?_, h1⟩
 cases l with
 | nil => rfl
 | cons x l =>
  simp only [List.all_cons, Bool.and_eq_true] at h2
  have hx := h2.1
  unfold plateOK at hx
  simp only [Bool.and_eq_true, inD_iff] at hx
  simp only [List.map_cons, rises, Bool.and_eq_true, decide_eq_true_eq] at h3 ⊢
  exact ⟨by omega, h3⟩
theorem platesS_go : ∀ (l : List Pl) (last : Int) (r : Bits), chain last l → platesS l.length last (goB last l ++ r) = some (l, r)
 | [], _, _, _ => rfl
 | x :: l, last, r, h => by
  rw [List.length_cons, platesS, goB, List.append_assoc, plateS_plate h.1]
  simp only [Option.bind_some]
  rw [platesS_go l x.num r h.2]; rfl
theorem unp_plates (l : List Pl) : unp (platesBy l) = numB 8 l.length ++ (goB 0 l ++ List.replicate ((8 - (bitsB l).length % 8) % 8) false) := by
 unfold platesBy
 rw [unp_pack]
 unfold padB bitsB
 rw [List.append_assoc]
theorem ones_rep (n : Nat) : ones (List.replicate n false) = 0 := by
 unfold ones; rw [List.count_replicate]; simp
theorem ones_zero {s : Bits} (h : ones s = 0) : s = List.replicate s.length false := by
 induction s with
 | nil => rfl
 | cons b s ih =>
  unfold ones at h ih
  cases b with
  | true => simp at h
  | false =>
   rw [List.count_cons] at h
   simp at h
   rw [List.length_cons, List.replicate_succ]
   congr 1
   exact ih h
theorem parseP_iff {b : Bs} {l : List Pl} : parseP b = some l ↔ platesE l = 0 ∧ platesBy l = b := by
 constructor
 ·intro h
  unfold parseP at h
  obtain ⟨⟨n, s⟩, h1, h⟩ := Option.bind_eq_some_iff.1 h
  obtain ⟨⟨l1, r⟩, h2, h⟩ := Option.bind_eq_some_iff.1 h
  simp only at h2 h
  split at h
  ·next hc =>
   cases h
   obtain ⟨hr, he, ho⟩ := hc
   obtain ⟨e1, _⟩ := takeB_of h1
   obtain ⟨e2, hl⟩ := platesS_of _ _ _ _ _ h2
   refine ⟨he, pack_of ?_⟩
   have hu : unp b = bitsB l ++ r := by rw [e1, e2]; unfold bitsB; rw [hl, List.append_assoc]
   rw [hu]
   unfold padB
   congr 1
   have h8 := unp_len b
   rw [hu, List.length_append] at h8
   rw [show (8 - (bitsB l).length % 8) % 8 = r.length by omega]
   exact (ones_zero ho).symm
  ·cases h
 ·rintro ⟨h1, rfl⟩
  obtain ⟨hc, hl⟩ := chain_ok h1
  unfold parseP
  rw [unp_plates, takeB_app (numB_len _ _)]
  simp only [Option.bind_some]
  rw [valB_numB 8 _ (by omega), platesS_go l 0 _ hc]
  simp only [Option.bind_some]
  rw [if_pos ⟨by rw [List.length_replicate]; omega, h1, ones_rep _⟩]
end Go.Bk
namespace Go.Mw
open Go.Proofs Go.Bk
theorem follows_mixed : Tryz.prog.follows .mixedOrders = true := by kernel_rfl
abbrev D.i (n : Int) : D := .raw (.int .i64 n)
@[go_sem] def encInt (n : Int) : List D := [.i n]
abbrev intsD (l : List Int) : D := .sl 1 (l.map encInt)
@[go_sem] def encStr (l : Bs) : List D := [.raw (.string (bs l))]
abbrev strsD (l : List Bs) : D := .sl 1 (l.map encStr)
@[go_sem] def encTr (t : Tr) : List D := [.i t.flow, .i t.pour, .i t.shown]
abbrev trsD (l : List Tr) : D := .sl 3 (l.map encTr)
abbrev trV (t : Tr) : AV := .val true ((encTr t).map .d)
@[go_sem] def encSh (x : Sh) : List D := [.i x.meter, trsD x.tries]
abbrev shsD (l : List Sh) : D := .sl 2 (l.map encSh)
abbrev shV (x : Sh) : AV := .val true ((encSh x).map .d)
@[go_sem] def encPl (x : Pl) : List D := [.i x.num, .i x.cls, .i x.day]
abbrev plsD (l : List Pl) : D := .sl 3 (l.map encPl)
abbrev plV (x : Pl) : AV := .val true ((encPl x).map .d)
@[go_sem] def encPg (x : Pg) : List D := [.i x.house, intsD x.reads]
abbrev pgsD (l : List Pg) : D := .sl 2 (l.map encPg)
abbrev pgV (x : Pg) : AV := .val true ((encPg x).map .d)
abbrev bysD (l : Bs) : D := .sl 1 (byD l)
def adrC (z : Bool) : AL := bif z then .ptr 990 0 else .d (.raw (.pointer none))
def bufC (l : Bs) : AL := if l = [] then .d (.raw (.slice none 0 0)) else .own 901 0 l.length l.length
def penO (z : Bool) (l : Bs) : List (Nat × AO) := [(990, .cells [adrC z, bufC l]), (901, .arr 5 1 (byD l))]
theorem bufC_nil : bufC [] = .d (.raw (.slice none 0 0)) := rfl
theorem bufC_ne {l : Bs} (h : l ≠ []) : bufC l = .own 901 0 l.length l.length := if_neg h
theorem adrC_t : adrC true = .ptr 990 0 := rfl
theorem adrC_f : adrC false = .d (.raw (.pointer none)) := rfl
theorem noEscape_run (v : Value) (w : World) : (callFunc 179 #[v]).run Tryz.prog w = .ok (.value v) w := by
 rw [run_callFunc_extern Tryz.func179 V169 V169 V169 (e := Extern.AbiNoEscape.same) V169, Lib.run_noEscape]; rfl
end Go.Mw
namespace Go.Mw
open Go.Proofs
open Go.Bk
theorem c_copyCheck (z : Bool) (l : Bs) : Con Tryz.prog 146 [.leaf (.ptr 990 0)] (penO z l) (.ret (.tup []) (penO true l)) := by
 unfold penO
 rcases Bool.eq_false_or_eq_true z with hz | hz <;> subst hz <;> by_cases hl : l = []
 ·skip
  subst hl
  rw [bufC_nil]
  refine con_of follows_mixed Tryz.func146 rfl V103 V169 rfl ?_
  refine Exec.reg ?_
  iterate 5 (refine Run.o1 V142 ?_)
  refine Run.nil ?_
  refine Exec.cnd V142 (fun hb6 => ?_) (fun hb6 => ?_)
  ·exact absurd hb6 (by simp)
  ·skip
   refine Exec.reg ?_
   iterate 5 (refine Run.o1 V142 ?_)
   refine Run.val (semV_neq Tryz.underlying86 V169 V162 V162 V162) rfl V162 ?_ 
   refine Run.nil ?_
   refine Exec.cnd V142 (fun hb19 => ?_) (fun hb19 => ?_)
   ·exact absurd hb19 (by simp)
   ·skip
    exact Ends.fin0 [990, 901] (rs := []) rfl V142 V119
 ·skip
  have hb := bufC_ne hl
  rw [hb]
  refine con_of follows_mixed Tryz.func146 rfl V103 V169 rfl ?_
  refine Exec.reg ?_
  iterate 5 (refine Run.o1 V142 ?_)
  refine Run.nil ?_
  refine Exec.cnd V142 (fun hb6 => ?_) (fun hb6 => ?_)
  ·exact absurd hb6 (by simp)
  ·skip
   refine Exec.reg ?_
   iterate 5 (refine Run.o1 V142 ?_)
   refine Run.val (semV_neq Tryz.underlying86 V169 V162 V162 V162) rfl V162 ?_ 
   refine Run.nil ?_
   refine Exec.cnd V142 (fun hb19 => ?_) (fun hb19 => ?_)
   ·exact absurd hb19 (by simp)
   ·skip
    exact Ends.fin0 [990, 901] (rs := []) rfl V142 V119
 ·skip
  subst hl
  rw [bufC_nil]
  refine con_of follows_mixed Tryz.func146 rfl V103 V169 rfl ?_
  refine Exec.reg ?_
  iterate 5 (refine Run.o1 V142 ?_)
  refine Run.nil ?_
  refine Exec.cnd V142 (fun hb6 => ?_) (fun hb6 => ?_)
  ·skip
   refine Exec.reg1 ?_
   iterate 2 (refine Run.o1 V142 ?_)
   refine Run.val (semV_toU Tryz.underlying86 Tryz.underlying250 (k := 2) V169 (by decide) V162 V162 (by simp)) rfl V162 ?_ 
   refine Run.val (semV_same noEscape_run V162 V162) rfl V162 ?_ 
   refine Run.val (semV_ofU Tryz.underlying250 Tryz.underlying86 V169 V162 V162 (T := 90) rfl V169) rfl V162 ?_ 
   iterate 3 (refine Run.o1 V142 ?_)
   refine Run.nil ?_
   exact Ends.fin0 [990, 901] (rs := []) rfl V142 V119
  ·exact absurd hb6 (by simp)
 ·skip
  have hb := bufC_ne hl
  rw [hb]
  refine con_of follows_mixed Tryz.func146 rfl V103 V169 rfl ?_
  refine Exec.reg ?_
  iterate 5 (refine Run.o1 V142 ?_)
  refine Run.nil ?_
  refine Exec.cnd V142 (fun hb6 => ?_) (fun hb6 => ?_)
  ·skip
   refine Exec.reg1 ?_
   iterate 2 (refine Run.o1 V142 ?_)
   refine Run.val (semV_toU Tryz.underlying86 Tryz.underlying250 (k := 2) V169 (by decide) V162 V162 (by simp)) rfl V162 ?_ 
   refine Run.val (semV_same noEscape_run V162 V162) rfl V162 ?_ 
   refine Run.val (semV_ofU Tryz.underlying250 Tryz.underlying86 V169 V162 V162 (T := 90) rfl V169) rfl V162 ?_ 
   iterate 3 (refine Run.o1 V142 ?_)
   refine Run.nil ?_
   exact Ends.fin0 [990, 901] (rs := []) rfl V142 V119
  ·exact absurd hb6 (by simp)
end Go.Mw
namespace Go.Mw
open Go.Proofs
open Go.Bk
theorem cc_n : Con Tryz.prog 146 [.leaf (.ptr 990 0)] [(990, .cells [.d (.raw (.pointer none)), .d (.raw (.slice none 0 0))]), (901, .arr 5 1 [])] (.ret (.tup []) [(990, .cells [.ptr 990 0, .d (.raw (.slice none 0 0))]), (901, .arr 5 1 [])]) := c_copyCheck false []
theorem cc_o {l : Bs} (h : l ≠ []) : Con Tryz.prog 146 [.leaf (.ptr 990 0)] [(990, .cells [.ptr 990 0, .own 901 0 l.length l.length]), (901, .arr 5 1 (byD l))] (.ret (.tup []) [(990, .cells [.ptr 990 0, .own 901 0 l.length l.length]), (901, .arr 5 1 (byD l))]) := by
 have := c_copyCheck true l
 unfold penO at this
 rw [bufC_ne h] at this
 exact this
theorem byD_nil : byD [] = [] := rfl
theorem c_WriteString (l s : Bs) (hls : l ++ s ≠ []) (hlen : l.length + s.length ≤ 140737488355328) : Con Tryz.prog 103 [.leaf (.ptr 990 0), .str s] [(990, .cells (penC 990 901 l)), (901, .arr 5 1 (byD l))] (.ret (.tup [(false, [.d (.i s.length)]), (false, [.d (.raw .nilIface)])]) [(990, .cells (penC 990 901 (l ++ s))), (901, .arr 5 1 (byD (l ++ s)))]) := by
 by_cases hl : l = []
 ·skip
  subst hl
  have hs : s ≠ [] := hls
  rw [penC_nil, penC_ne hls]
  refine con_of follows_mixed Tryz.func103 rfl (by simp only [List.length_cons, List.length_nil, Tryz.ntmps103]; omega) V169 rfl ?_
  refine Exec.reg ?_
  iterate 2 (refine Run.o ?_)
  refine Run.nil (Exec.reg ?_)
  refine Run.o ?_
  refine Run.lendG [(990, 990), (901, 901)] V162 (cc_n) V164 (.inl ⟨[], by simp only [go_sem] <;> rfl, rfl⟩) V162 V13 rfl (by decide) V46 V54 V42 V78 V162 ?_
  refine Run.nil (Exec.reg ?_)
  iterate 6 (refine Run.o ?_)
  first | refine Run.appS 901 l s V87 V162 V162 Tryz.underlying53 Tryz.underlying9 (i := Tryz.t5) V169 ⟨by kernel_rfl, by kernel_rfl, by kernel_rfl⟩ hlen V162 ?_ | refine Run.appS 901 [] s V87 V162 V162 Tryz.underlying53 Tryz.underlying9 (i := Tryz.t5) V169 ⟨by kernel_rfl, by kernel_rfl, by kernel_rfl⟩ hlen V162 ?_
  iterate 3 (refine Run.o ?_)
  refine Run.nil (Exec.reg ?_)
  iterate 4 (refine Run.o ?_)
  refine Run.nil ?_
  exact Ends.fin [990, 901] (rs := [.tmp 4, .tmp 5]) rfl V162 V137
 ·skip
  rw [penC_ne hl, penC_ne hls]
  refine con_of follows_mixed Tryz.func103 rfl (by simp only [List.length_cons, List.length_nil, Tryz.ntmps103]; omega) V169 rfl ?_
  refine Exec.reg ?_
  iterate 2 (refine Run.o ?_)
  refine Run.nil (Exec.reg ?_)
  refine Run.o ?_
  refine Run.lendG [(990, 990), (901, 901)] V162 (cc_o hl) V164 (.inl ⟨[], by simp only [go_sem] <;> rfl, rfl⟩) V162 V13 rfl (by decide) V46 V54 V42 V78 V162 ?_
  refine Run.nil (Exec.reg ?_)
  iterate 6 (refine Run.o ?_)
  first | refine Run.appS 901 l s V87 V162 V162 Tryz.underlying53 Tryz.underlying9 (i := Tryz.t5) V169 ⟨by kernel_rfl, by kernel_rfl, by kernel_rfl⟩ hlen V162 ?_ | refine Run.appS 901 [] s V87 V162 V162 Tryz.underlying53 Tryz.underlying9 (i := Tryz.t5) V169 ⟨by kernel_rfl, by kernel_rfl, by kernel_rfl⟩ hlen V162 ?_
  iterate 3 (refine Run.o ?_)
  refine Run.nil (Exec.reg ?_)
  iterate 4 (refine Run.o ?_)
  refine Run.nil ?_
  exact Ends.fin [990, 901] (rs := [.tmp 4, .tmp 5]) rfl V162 V137
theorem c_WriteByte (l : Bs) (c : UInt8) (hl : l ≠ []) (hlen : l.length + 1 ≤ 140737488355328) : Con Tryz.prog 104 [.leaf (.ptr 990 0), .raw (.int .u8 c.toNat)] [(990, .cells (penC 990 901 l)), (901, .arr 5 1 (byD l))] (.ret (.raw .nilIface) [(990, .cells (penC 990 901 (l ++ [c]))), (901, .arr 5 1 (byD (l ++ [c])))]) := by
 have hne : l ++ [c] ≠ [] := by simp
 rw [penC_ne hl, penC_ne hne]
 have hbl := byD_len l
 refine con_of follows_mixed Tryz.func104 rfl (by simp only [List.length_cons, List.length_nil, Tryz.ntmps104]; omega) V169 rfl ?_
 refine Exec.reg ?_
 have X := Fx.mk hbl
 refine Run.o1 V158 ?_
 refine Run.nil (Exec.reg ?_)
 refine Run.o1 V158 ?_
 refine Run.lendG [(990, 990), (901, 901)] V162 (cc_o hl) V164 (.inl ⟨[], by simp only [go_sem] <;> rfl, rfl⟩) V162 V13 rfl (by decide) V46 V54 V42 V78 V162 ?_
 refine Run.nil (Exec.reg ?_)
 iterate 7 (refine Run.o1 V158 ?_)
 refine Run.o1 V7 ?_
 iterate 3 (refine Run.o1 V158 ?_)
 refine Run.nil (Exec.reg ?_)
 refine Run.o1 V158 ?_
 refine Run.nil ?_
 exact Ends.fin [990, 901] (rs := [.tmp 4]) rfl V158 (by simp only [go_sem, X.h] <;> first | rfl | ((repeat' (first | with_reducible_and_instances rfl | refine st_eq ?_ ?_ ?_ | refine ret_eq ?_ | refine tup_eq ?_ | refine tm_eq ?_ ?_ | refine arr_eq ?_ | refine cells_eq ?_ | refine val_eq ?_ | refine ls_eq ?_ ?_ | refine own_eq ?_ ?_ | refine sl_eq ?_ | refine b_eq ?_ | (refine i_eq ?_; omega))); all_goals (first | omega | (simp [byD]; done))))
theorem c_line (l : Bs) (ws : List Bs) (hw : blanks ws ≠ []) (hn : ws.length ≤ 1000000) (hlen : l.length + (blanks ws).length + 1 ≤ 140737488355328) : Con Tryz.prog 49 [.leaf (.ptr 990 0), .leaf (.d (strsD ws))] [(990, .cells (penC 990 901 l)), (901, .arr 5 1 (byD l))] (.ret (.tup []) [(990, .cells (penC 990 901 (l ++ blanks ws ++ [10]))), (901, .arr 5 1 (byD (l ++ blanks ws ++ [10])))]) := by
 have hj := join_blanks ws
 have hne : l ++ blanks ws ≠ [] := by simp [hw]
 have hl2 : (l ++ blanks ws).length = l.length + (blanks ws).length := List.length_append
 refine con_of follows_mixed Tryz.func49 rfl (by simp only [List.length_cons, List.length_nil, Tryz.ntmps49]; omega) V169 rfl ?_
 refine Exec.opk 8 ?_
 have X := Fx.mk hj
 iterate 4 (refine OpenK.o1 V158 ?_)
 refine OpenK.cal (c_Join ws [32] (by omega) (by rw [hj]; omega)) V164 V158 V32 (fr0) V158 V162 V162 ?_
 refine OpenK.lendG (ds := []) [(990, 990), (901, 901)] V162 (c_WriteString l (blanks ws) hne (by omega)) V164 V162 V162 V27 rfl (by decide) V148 V54 V40 rfl V162 V162 V162 ?_
 refine OpenK.nil (OpenE.fin V166 V166 ?_)
 refine Exec.reg1 ?_
 iterate 3 (refine Run.o1 V158 ?_)
 refine Run.lendG [(990, 990), (901, 901)] V162 (c_WriteByte (l ++ blanks ws) 10 hne (by omega)) V164 (.inl ⟨[], by simp only [go_sem] <;> rfl, rfl⟩) V162 V8 rfl (by decide) V148 V54 V40 V78 V162 ?_
 refine Run.nil ?_
 exact Ends.fin0 [990, 901] (rs := []) rfl V158 V129
end Go.Mw
namespace Go.Bk
open Go Go.Mw
theorem bs_getElem (l : Bs) (p : Nat) (h : p < l.length) : (bs l)[p]'(by rw [bs_size]; exact h) = l[p] := by
 have := bs_get l p
 rw [getElem?_pos (bs l) p (by rw [bs_size]; exact h), List.getElem?_eq_getElem h] at this
 exact Option.some.inj this
theorem dec_low (l : Bs) (p : Nat) (h : p < l.length) (ha : l[p].toNat < 128) : Utf8.decode (bs l) p = (l[p].toNat, 1) := by
 have := decode_ascii (bs l) p (by rw [bs_size]; exact h) (by rw [bs_getElem l p h]; exact ha)
 rw [bs_getElem l p h] at this
 exact this
theorem cont_high (l : Bs) (p k : Nat) (h : p + k < l.length) (hc : ((bs l).get! (p + k)).toNat / 64 = 2) : 128 ≤ (l[p + k]).toNat := by
 have e : (bs l).get! (p + k) = l[p + k] := by
  have h1 : (bs l).get! (p + k) = (bs l)[p + k]'(by rw [bs_size]; exact h) := by
   rw [ByteArray.get!]
   show (bs l).data[p + k]! = _
   rw [getElem!_pos]
   rfl
  rw [h1, bs_getElem l _ h]
 rw [e] at hc
 omega
theorem dec_high (l : Bs) (p : Nat) (h : p < l.length) (ha : 128 ≤ l[p].toNat) : 128 ≤ (Utf8.decode (bs l) p).1 ∧ 1 ≤ (Utf8.decode (bs l) p).2 ∧ p + (Utf8.decode (bs l) p).2 ≤ l.length ∧
  ∀ i (hi : i < l.length), p ≤ i → i < p + (Utf8.decode (bs l) p).2 → 128 ≤ l[i].toNat := by
 obtain ⟨h1, h2⟩ := decode_high (bs l) p (by rw [bs_size]; exact h) (by rw [bs_getElem l p h]; exact ha)
 refine ⟨h1, h2, ?_⟩
 have hone : ∀ i (hi : i < l.length), p ≤ i → i < p + 1 → 128 ≤ l[i].toNat := fun i hi h3 h4 => by
  have : i = p := by omega
  subst this; exact ha
 have c1 : ∀ k, p + k < l.length → ((bs l).get! (p + k)).toNat / 64 = 2 → ∀ i (hi : i < l.length), i = p + k → 128 ≤ l[i].toNat := fun k hk hc i hi e => by subst e; exact cont_high l p k hk hc
 unfold Utf8.decode
 simp only [bs_size, Bool.and_eq_true, decide_eq_true_eq, beq_iff_eq]
 split
 ·exact ⟨by simp; omega, hone⟩
 ·split
  ·rename_i hh
   have e1 := c1 1 hh.2.1 hh.2.2
   split
   ·refine ⟨by simp; omega, fun i hi h3 h4 => ?_⟩
    simp at h4
    by_cases e : i = p
    ·exact hone i hi (by omega) (by omega)
    ·exact e1 i hi (by omega)
   ·exact ⟨by simp; omega, hone⟩
  ·split
   ·rename_i hh
    have e1 := c1 1 hh.1.2.1 hh.1.2.2
    have e2 := c1 2 hh.2.1 hh.2.2
    split
    ·refine ⟨by simp; omega, fun i hi h3 h4 => ?_⟩
     simp at h4
     by_cases e : i = p
     ·exact hone i hi (by omega) (by omega)
     ·by_cases e' : i = p + 1
      ·exact e1 i hi e'
      ·exact e2 i hi (by omega)
    ·exact ⟨by simp; omega, hone⟩
   ·split
    ·rename_i hh
     have e1 := c1 1 hh.1.1.2.1 hh.1.1.2.2
     have e2 := c1 2 hh.1.2.1 hh.1.2.2
     have e3 := c1 3 hh.2.1 hh.2.2
     split
     ·refine ⟨by simp; omega, fun i hi h3 h4 => ?_⟩
      simp at h4
      by_cases e : i = p
      ·exact hone i hi (by omega) (by omega)
      ·by_cases e' : i = p + 1
       ·exact e1 i hi e'
       ·by_cases e'' : i = p + 2
        ·exact e2 i hi e''
        ·exact e3 i hi (by omega)
     ·exact ⟨by simp; omega, hone⟩
    ·exact ⟨by simp; omega, hone⟩
theorem rune_dig {l : Bs} {p : Nat} (h : p < l.length) (h1 : 48 ≤ (Utf8.decode (bs l) p).1) (h2 : (Utf8.decode (bs l) p).1 ≤ 57) : (Utf8.decode (bs l) p).2 = 1 ∧ l[p].toNat = (Utf8.decode (bs l) p).1 ∧ isDig l[p] = true := by
 by_cases ha : l[p].toNat < 128
 ·have := dec_low l p h ha
  rw [this] at h1 h2 ⊢
  exact ⟨rfl, rfl, isDig_iff.2 ⟨h1, h2⟩⟩
 ·have := (dec_high l p h (by omega)).1
  omega
theorem rune_not {l : Bs} {p : Nat} (h : p < l.length) (hn : ¬ (48 ≤ (Utf8.decode (bs l) p).1 ∧ (Utf8.decode (bs l) p).1 ≤ 57)) : 1 ≤ (Utf8.decode (bs l) p).2 ∧ p + (Utf8.decode (bs l) p).2 ≤ l.length ∧ ∀ i (hi : i < l.length), p ≤ i → i < p + (Utf8.decode (bs l) p).2 → isDig l[i] = false := by
 by_cases ha : l[p].toNat < 128
 ·have := dec_low l p h ha
  rw [this] at hn ⊢
  refine ⟨Nat.le_refl _, by simp; omega, fun i hi h3 h4 => ?_⟩
  simp at h4
  have : i = p := by omega
  subst this
  rw [← Bool.not_eq_true, isDig_iff]
  exact hn
 ·obtain ⟨_, h2, h3, h4⟩ := dec_high l p h (by omega)
  refine ⟨h2, h3, fun i hi h5 h6 => ?_⟩
  have := h4 i hi h5 h6
  rw [← Bool.not_eq_true, isDig_iff]
  omega
theorem dsum_take (l : Bs) (p k : Nat) (h : p + k ≤ l.length) (hn : ∀ i (hi : i < l.length), p ≤ i → i < p + k → isDig l[i] = false) : dsum (l.take (p + k)) = dsum (l.take p) := by
 induction k with
 | zero => rfl
 | succ k ih =>
  rw [← Nat.add_assoc, List.take_add_one, List.getElem?_eq_getElem (show p + k < l.length by omega), dsum_app, ih (by omega) (fun i hi h1 h2 => hn i hi h1 (by omega))]
  have := hn (p + k) (by omega) (by omega) (by omega)
  simp [dsum, dig, this]
theorem dsum_dig (l : Bs) (p : Nat) (h : p < l.length) (hd : isDig l[p] = true) : dsum (l.take (p + 1)) = dsum (l.take p) + (l[p].toNat - 48) := by
 rw [List.take_add_one, List.getElem?_eq_getElem h, dsum_app]
 simp [dsum, dig, hd]
end Go.Bk
namespace Go.Mw
open Go.Proofs
open Go.Bk
attribute [local go_sem] decide_true beq_self_eq_true bne_self_eq_false
def pvE : Value := .iface 172 (.agg #[.int .i64 8])
theorem c_within (n l h : Int) : Contract Tryz.prog 142 [.int n, .int l, .int h] (.bool (inD n l h)) [] := by
 refine con_of follows_mixed Tryz.func142 rfl (by simp only [List.length_cons, List.length_nil, Tryz.ntmps142]; omega) V169 rfl ?_
 refine Exec.reg ?_
 refine Run.o1 V159 ?_
 refine Run.nil (Exec.reg ?_)
 iterate 4 (refine Run.o1 V159 ?_)
 iterate 3 (refine Run.gop V162 V159 V162 ?_)
 iterate 2 (refine Run.o1 V159 ?_)
 refine Run.nil ?_
 exact Ends.fin [] (rs := [.tmp 6]) rfl V159 (by simp only [go_sem, inD] <;> first | rfl | exact eqz)
theorem c_need (b : Bool) (h : b = true) : Contract Tryz.prog 55 [.bool b] (.tup []) [] := by
 subst h
 refine con_of follows_mixed Tryz.func55 rfl (by simp only [List.length_cons, List.length_nil, Tryz.ntmps55]; omega) V169 rfl ?_
 refine Exec.reg ?_
 iterate 2 (refine Run.o ?_)
 refine Run.nil ?_
 refine Exec.cnd V162 (fun hb3 => ?_) (fun hb3 => ?_)
 ·exact absurd hb3 (by simp)
 ·skip
  exact Ends.fin0 [] (rs := []) rfl V162 V137
theorem p_need (b : Bool) (h : b = false) : Pan Tryz.prog pvE 55 [.bool b] [] := by
 subst h
 refine pan_of follows_mixed Tryz.func55 rfl (by simp only [List.length_cons, List.length_nil, Tryz.ntmps55]; omega) V169 rfl ?_
 refine Exec.reg ?_
 iterate 2 (refine Run.o ?_)
 refine Run.nil ?_
 refine Exec.cnd V162 (fun hb3 => ?_) (fun hb3 => ?_)
 ·skip
  refine Exec.pan1 (pv := pvE) 2 rfl ?_
  iterate 2 (refine Run.o ?_)
  exact Run.pani (us := [.int .i64 8]) V162 rfl rfl
 ·exact absurd hb3 (by simp)
end Go.Mw
namespace Go.Mw
open Go.Proofs
open Go.Bk
attribute [local go_sem] decide_true beq_self_eq_true bne_self_eq_false
theorem dsum_bnd (l : Bs) (k : Nat) (h : l.length ≤ 1000000) : dsum (l.take k) ≤ 9000000 := by
 have := dsum_le (l.take k)
 have : (l.take k).length ≤ l.length := by rw [List.length_take]; omega
 omega
end Go.Mw
namespace Go.Mw
open Go.Proofs
open Go.Bk
attribute [local go_sem] decide_true beq_self_eq_true bne_self_eq_false
theorem g64 : ∃ g, Tryz.prog.globalNamed "internal/strconv.uint64pow10" = some g := Option.isSome_iff_exists.1 (show (Tryz.prog.globalNamed "internal/strconv.uint64pow10").isSome = true by kernel_rfl)
theorem c_ItoaN (n : Nat) (h : n ≤ 9223372036854775807) : Contract Tryz.prog 46 [.int n] (.str (txt n)) [] := by
 obtain ⟨g, hg⟩ := g64
 have := c_Itoa (n : Int) (by omega) (by omega) g hg
 rwa [itoa_nat] at this
theorem c_ItoaI (m : Int) (h0 : 0 ≤ m) (h1 : m ≤ 9223372036854775807) : Contract Tryz.prog 46 [.int m] (.str (txt m.toNat)) [] := by
 have := c_ItoaN m.toNat (by omega)
 rwa [Int.toNat_of_nonneg h0] at this
theorem rep_one (c : UInt8) : ∀ n : Nat, Lib.repeatL [c] n = List.replicate n c
 | 0 => rfl
 | n + 1 => by rw [Lib.repeatL, rep_one c n, List.replicate_succ]; rfl
theorem c_Rep (c : UInt8) (n : Nat) (h : n ≤ 1000000) : Contract Tryz.prog 131 [.str [c], .int n] (.str (List.replicate n c)) [] := by
 have := c_Repeat [c] n (by omega) V168
 rwa [rep_one] at this
theorem max_sub (a b : Nat) : pick2 false 0 ((a : Int) - (b : Int)) = ((a - b : Nat) : Int) := by
 show (if (0 : Int) < _ then _ else _) = _
 split <;> omega
theorem c_wide (n w : Nat) (c : UInt8) (hn : n ≤ 9223372036854775807) (hw : w ≤ 1000) : Contract Tryz.prog 81 [.int n, .int w, .str [c]] (.str (pad c w (txt n))) [] := by
 have htl := txt_len (n := n) (k := 20) (by omega) (by omega)
 have hsub : IntKind.i64.wrap ((w : Int) - ((txt n).length : Int)) = (w : Int) - ((txt n).length : Int) := IntWalk.i64_in _ (by omega)
 have hmx := max_sub w (txt n).length
 refine con_of follows_mixed Tryz.func81 rfl (by simp only [List.length_cons, List.length_nil, Tryz.ntmps81]; omega) V169 rfl ?_
 refine Exec.reg ?_
 have X := Fx.mk hmx
 refine Run.o1 V153 ?_
 refine Run.nil (Exec.reg ?_)
 refine Run.o1 V153 ?_
 refine Run.c1 (c_ItoaN n hn) V153 V153 ?_
 refine Run.o1 V153 ?_
 refine Run.nil (Exec.reg ?_)
 iterate 4 (refine Run.o1 V153 ?_)
 refine Run.o1 V64 ?_
 refine Run.o1 V153 ?_
 refine Run.c1 (c_Rep c (w - (txt n).length) (by omega)) V153 V153 ?_
 refine Run.o1 V153 ?_
 refine Run.o1 V64 ?_
 refine Run.o1 V153 ?_
 refine Run.nil ?_
 exact Ends.fin [] (rs := [.tmp 6]) rfl V153 (by simp only [go_sem, X.h, pad] <;> first | rfl | exact eqz)
theorem c_check (l : Bs) (hl : l.length ≤ 1000000) : Contract Tryz.prog 82 [.str l] (.str (chk l)) [] := by
 have hch : chk l = txt (dsum l % 10) := rfl
 refine con_of follows_mixed Tryz.func82 rfl (by simp only [List.length_cons, List.length_nil, Tryz.ntmps82]; omega) V169 rfl ?_
 refine Exec.reg ?_
 have X := Fx.mk hch
 refine Run.o1 V158 ?_
 refine Run.nil (Exec.reg ?_)
 refine Run.o1 V158 ?_
 refine Run.nil (Exec.assocS (Exec.reg ?_))
 iterate 2 (refine Run.o1 V158 ?_)
 refine Run.nil (Exec.blk ?_)
 refine Exec.whl [3, 7] [7] (fun (p : Nat) => [.slot 3 (.int (dsum (l.take p))), .slot 7 (.leaf (.obj 7)), .obj 7 (.sit (bs l) p)]) (fun p => p ≤ l.length) (fun p => l.length - p) (0) (fun p => by simp only [go_sem] <;> rfl) (by simp only [go_sem, X.h, Int.natCast_zero] <;> rfl) ?_ (fun p hX => ?_)
 ·exact Nat.zero_le _
 ·skip
  have hbd := dsum_bnd l p hl
  by_cases hp : p < l.length
  ·skip
   refine Exec.reg ?_
   have X := X.a hp
   iterate 2 (refine Run.o1 V158 ?_)
   refine Run.nil ?_
   refine Exec.cndS V158 (fun hb9 => ?_) (fun hb9 => ?_)
   ·skip
    refine Exec.skipS (Exec.blk1 (Exec.reg ?_))
    iterate 2 (refine Run.o1 V158 ?_)
    refine Run.nil (Exec.reg ?_)
    iterate 3 (refine Run.o1 V158 ?_)
    iterate 2 (refine Run.gop V162 V158 V162 ?_)
    refine Run.o1 V158 ?_
    refine Run.nil ?_
    refine Exec.cnd V158 (fun hb16 => ?_) (fun hb16 => ?_)
    ·skip
     have h1 : 48 ≤ (Utf8.decode (bs l) p).1 ∧ (Utf8.decode (bs l) p).1 ≤ 57 := by
      have h := hb16
      rw [Bool.and_eq_true] at h
      have h1 := of_decide_eq_true h.1
      have h2 := of_decide_eq_true h.2
      omega
     obtain ⟨g1, g2, g3⟩ := rune_dig hp h1.1 h1.2
     have g4 := dsum_dig l p hp g3
     have hw1 : IntKind.i32.wrap (((Utf8.decode (bs l) p).1 : Int) - 48) = (((Utf8.decode (bs l) p).1 - 48 : Nat) : Int) := by rw [IntWalk.i32_in _ (by omega)]; omega
     have hw2 : IntKind.i64.wrap (((Utf8.decode (bs l) p).1 - 48 : Nat) : Int) = (((Utf8.decode (bs l) p).1 - 48 : Nat) : Int) := IntWalk.i64_in _ (by omega)
     have hw3 : IntKind.i64.wrap ((dsum (l.take p) : Int) + (((Utf8.decode (bs l) p).1 - 48 : Nat) : Int)) = (dsum (l.take (p + (Utf8.decode (bs l) p).2)) : Int) := by rw [g1, g4, g2, IntWalk.i64_in _ (by omega)]; omega
     refine Exec.reg1 ?_
     have X := ((X.a hw1).a hw2).a hw3
     iterate 2 (refine Run.o1 V158 ?_)
     iterate 3 (refine Run.o1 V67 ?_)
     refine Run.o1 V158 ?_
     refine Run.nil (Blk1K.nrm ?_)
     refine WhlK.nxt (p + (Utf8.decode (bs l) p).2) ?_ ?_ ?_
     ·show l.length - (p + (Utf8.decode (bs l) p).2) < l.length - p; omega
     ·show p + (Utf8.decode (bs l) p).2 ≤ l.length; omega
     ·exact Ghost.kp [3, 7] [7] V130
    ·skip
     have h1 : ¬ (48 ≤ (Utf8.decode (bs l) p).1 ∧ (Utf8.decode (bs l) p).1 ≤ 57) := by
      intro ⟨h1, h2⟩
      have h := hb16
      rw [decide_eq_true (by omega), decide_eq_true (by omega)] at h
      cases h
     obtain ⟨g1, g2, g3⟩ := rune_not hp h1
     have g4 := dsum_take l p _ g2 g3
     refine Blk1K.nrm ?_
     refine WhlK.nxt (p + (Utf8.decode (bs l) p).2) ?_ ?_ ?_
     ·show l.length - (p + (Utf8.decode (bs l) p).2) < l.length - p; omega
     ·show p + (Utf8.decode (bs l) p).2 ≤ l.length; exact g2
     ·exact Ghost.kp [3, 7] [7] (by simp only [go_sem, hch, hp, g4] <;> first | exact eqz | rfl)
   ·exact absurd hb9 (by simp)
  ·skip
   have hpe : p = l.length := by omega
   subst hpe
   have htk : l.take l.length = l := List.take_length
   have hm : Int.tmod ((dsum l : Nat) : Int) 10 = ((dsum l % 10 : Nat) : Int) := by rw [Int.tmod_eq_emod_of_nonneg (by omega)]; omega
   refine Exec.reg ?_
   have X := ((X.a hp).a htk).a hm
   iterate 2 (refine Run.o1 V158 ?_)
   refine Run.nil ?_
   refine Exec.cndS V158 (fun hb9 => ?_) (fun hb9 => ?_)
   ·exact absurd hb9 (by simp)
   ·skip
    refine Exec.exitS (WhlK.ext (BlkK.hit (Exec.reg ?_)))
    refine Run.o1 V158 ?_
    refine Run.o1 V67 ?_
    refine Run.c1 (c_ItoaN (dsum l % 10) (by omega)) V158 V158 ?_
    refine Run.o1 V158 ?_
    refine Run.nil ?_
    exact Ends.fin [] (rs := [.tmp 2]) rfl V158 V129
theorem c_columns : Contract Tryz.prog 132 [] (.val true [.d (.i 6), .d (.i 7), .d (.i 7)]) [] := by
 refine con_of follows_mixed Tryz.func132 rfl (by simp only [List.length_cons, List.length_nil, Tryz.ntmps132]; omega) V169 rfl ?_
 refine Exec.reg ?_
 refine Run.o ?_
 refine Run.nil (Exec.reg ?_)
 iterate 2 (refine Run.o ?_)
 refine Run.nil ?_
 exact Ends.fin [] (rs := [.cell 0 209]) rfl V162 V137
end Go.Mw
