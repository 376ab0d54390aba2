/- Closed facts on the program's table of types. -/
import Derived.Test.YtpmdcdglfeicaaaGreatDoorD1
import Derived.Test.YtpmdcdglfeicaaaGreatDoorProg
import Derived.Test.YtpmdcdglfeicaaaGreatDoorB3
import Derived.Shelf.Lays
import Derived.Shelf.LaysM
import GoSem.Extern.Twins
import Derived.Test.YtpmdcdglfeicaaaGreatDoorB4
import Derived.Shelf.Strings.Prefix
import Derived.Shelf.Strings.OnBuilder
import Derived.Shelf.Strings.Repeat
import Derived.Shelf.Strings.Trim
import Derived.Shelf.Strings.SplitShaped
import Derived.Shelf.Strings.Shaped
import Derived.Shelf.Strconv.Itoa3
import Derived.Shelf.Small.Bits
import Derived.Lib.AppendIntMem
import Derived.WalkSmall
import Derived.Lib.ItoaLen
import Derived.Lib.Join
import Derived.Lib.Repeat
import Derived.Lib.TrimByte
import Derived.Lib.Strings
import Derived.Lib.BitFns
import Derived.Laws.RangeAny
import Derived.Laws.RangeString
import Derived.Test.YtpmdcdglfeicaaaGreatDoorB5
set_option maxRecDepth 100000
set_option maxHeartbeats 2000000
set_option linter.unusedSimpArgs false
set_option linter.unusedVariables false
set_option linter.unusedSectionVars false
set_option linter.deprecated false
namespace Go.Mw
open Go.Proofs
@[go_sem] theorem JW4:Jn Tryz.prog 3=some 1∧QM Tryz.prog 3=some 8∧QA Tryz.prog 3=some false∧J4 Tryz.prog 3=none∧QH Tryz.prog 3=some IntKind.i64∧QC Tryz.prog 3=false∧QV Tryz.prog 3=false∧QS Tryz.prog 3=none∧QK Tryz.prog 3=none∧QT Tryz.prog 3=none∧QX Tryz.prog 3=none∧QD Tryz.prog 3=some (false,[D.raw (Value.int IntKind.i64 (0))])∧Program.concrete Tryz.prog 3=true:=by and_intros<;>kernel_rfl
@[go_sem] theorem JW7:Jn Tryz.prog 4=some 1∧QM Tryz.prog 4=some 1∧QA Tryz.prog 4=some false∧J4 Tryz.prog 4=none∧QH Tryz.prog 4=none∧QC Tryz.prog 4=false∧QV Tryz.prog 4=true∧QS Tryz.prog 4=none∧QK Tryz.prog 4=none∧QT Tryz.prog 4=none∧QX Tryz.prog 4=none∧QD Tryz.prog 4=some (false,[D.raw (Value.bool false)])∧Program.concrete Tryz.prog 4=true:=by and_intros<;>kernel_rfl
@[go_sem] theorem JW8:Jn Tryz.prog 5=some 1∧QM Tryz.prog 5=some 1∧QA Tryz.prog 5=some false∧J4 Tryz.prog 5=none∧QH Tryz.prog 5=some IntKind.u8∧QC Tryz.prog 5=false∧QV Tryz.prog 5=false∧QS Tryz.prog 5=none∧QK Tryz.prog 5=none∧QT Tryz.prog 5=none∧QX Tryz.prog 5=none∧QD Tryz.prog 5=some (false,[D.raw (Value.int IntKind.u8 (0))])∧Program.concrete Tryz.prog 5=true:=by and_intros<;>kernel_rfl
@[go_sem] theorem JXI:Jn Tryz.prog 9=some 1∧QM Tryz.prog 9=some 16∧QA Tryz.prog 9=some false∧J4 Tryz.prog 9=none∧QH Tryz.prog 9=none∧QC Tryz.prog 9=true∧QV Tryz.prog 9=false∧QS Tryz.prog 9=none∧QK Tryz.prog 9=none∧QT Tryz.prog 9=none∧QX Tryz.prog 9=none∧QD Tryz.prog 9=some (false,[D.raw (Value.string (ByteArray.mk (List.toArray [])))])∧Program.concrete Tryz.prog 9=true:=by and_intros<;>kernel_rfl
@[go_sem] theorem JWl:Jn Tryz.prog 20=some 1∧QM Tryz.prog 20=some 16∧QA Tryz.prog 20=some false∧J4 Tryz.prog 20=none∧QH Tryz.prog 20=none∧QC Tryz.prog 20=false∧QV Tryz.prog 20=false∧QS Tryz.prog 20=none∧QK Tryz.prog 20=none∧QT Tryz.prog 20=none∧QX Tryz.prog 20=none∧QD Tryz.prog 20=some (false,[D.raw Value.nilIface])∧Program.concrete Tryz.prog 20=false:=by and_intros<;>kernel_rfl
@[go_sem] theorem JWr:Jn Tryz.prog 21=some 1∧QM Tryz.prog 21=some 4∧QA Tryz.prog 21=some false∧J4 Tryz.prog 21=none∧QH Tryz.prog 21=some IntKind.i32∧QC Tryz.prog 21=false∧QV Tryz.prog 21=false∧QS Tryz.prog 21=none∧QK Tryz.prog 21=none∧QT Tryz.prog 21=none∧QX Tryz.prog 21=none∧QD Tryz.prog 21=some (false,[D.raw (Value.int IntKind.i32 (0))])∧Program.concrete Tryz.prog 21=true:=by and_intros<;>kernel_rfl
@[go_sem] theorem JW0:Jn Tryz.prog 28=some 1∧QM Tryz.prog 28=some 24∧QA Tryz.prog 28=some false∧J4 Tryz.prog 28=some 31∧QH Tryz.prog 28=none∧QC Tryz.prog 28=false∧QV Tryz.prog 28=false∧QS Tryz.prog 28=none∧QK Tryz.prog 28=none∧QT Tryz.prog 28=none∧QX Tryz.prog 28=none∧QD Tryz.prog 28=some (false,[D.raw (Value.slice none 0 0)])∧Program.concrete Tryz.prog 28=true:=by and_intros<;>kernel_rfl
@[go_sem] theorem JW3:Jn Tryz.prog 29=some 1∧QM Tryz.prog 29=some 24∧QA Tryz.prog 29=some false∧J4 Tryz.prog 29=some 3∧QH Tryz.prog 29=none∧QC Tryz.prog 29=false∧QV Tryz.prog 29=false∧QS Tryz.prog 29=none∧QK Tryz.prog 29=none∧QT Tryz.prog 29=none∧QX Tryz.prog 29=none∧QD Tryz.prog 29=some (false,[D.raw (Value.slice none 0 0)])∧Program.concrete Tryz.prog 29=true:=by and_intros<;>kernel_rfl
@[go_sem] theorem JW5:Jn Tryz.prog 31=some 2∧QM Tryz.prog 31=some 32∧QA Tryz.prog 31=some true∧J4 Tryz.prog 31=none∧QH Tryz.prog 31=none∧QC Tryz.prog 31=false∧QV Tryz.prog 31=false∧QS Tryz.prog 31=none∧QK Tryz.prog 31=none∧QT Tryz.prog 31=none∧QX Tryz.prog 31=some [(0,1),(1,1)]∧QD Tryz.prog 31=some (true,[D.raw (Value.int IntKind.i64 (0)),D.raw (Value.slice none 0 0)])∧Program.concrete Tryz.prog 31=true:=by and_intros<;>kernel_rfl
@[go_sem] theorem JW6:Jn Tryz.prog 35=some 1∧QM Tryz.prog 35=some 8∧QA Tryz.prog 35=some false∧J4 Tryz.prog 35=none∧QH Tryz.prog 35=some IntKind.i64∧QC Tryz.prog 35=false∧QV Tryz.prog 35=false∧QS Tryz.prog 35=none∧QK Tryz.prog 35=none∧QT Tryz.prog 35=none∧QX Tryz.prog 35=none∧QD Tryz.prog 35=some (false,[D.raw (Value.int IntKind.i64 (0))])∧Program.concrete Tryz.prog 35=true:=by and_intros<;>kernel_rfl
@[go_sem] theorem JW9:Jn Tryz.prog 52=some 1∧QM Tryz.prog 52=some 24∧QA Tryz.prog 52=some false∧J4 Tryz.prog 52=some 70∧QH Tryz.prog 52=none∧QC Tryz.prog 52=false∧QV Tryz.prog 52=false∧QS Tryz.prog 52=none∧QK Tryz.prog 52=none∧QT Tryz.prog 52=none∧QX Tryz.prog 52=none∧QD Tryz.prog 52=some (false,[D.raw (Value.slice none 0 0)])∧Program.concrete Tryz.prog 52=true:=by and_intros<;>kernel_rfl
@[go_sem] theorem JXA:Jn Tryz.prog 53=some 1∧QM Tryz.prog 53=some 24∧QA Tryz.prog 53=some false∧J4 Tryz.prog 53=some 5∧QH Tryz.prog 53=none∧QC Tryz.prog 53=false∧QV Tryz.prog 53=false∧QS Tryz.prog 53=none∧QK Tryz.prog 53=none∧QT Tryz.prog 53=none∧QX Tryz.prog 53=none∧QD Tryz.prog 53=some (false,[D.raw (Value.slice none 0 0)])∧Program.concrete Tryz.prog 53=true:=by and_intros<;>kernel_rfl
@[go_sem] theorem JXB:Jn Tryz.prog 61=some 1∧QM Tryz.prog 61=some 24∧QA Tryz.prog 61=some false∧J4 Tryz.prog 61=some 68∧QH Tryz.prog 61=none∧QC Tryz.prog 61=false∧QV Tryz.prog 61=false∧QS Tryz.prog 61=none∧QK Tryz.prog 61=none∧QT Tryz.prog 61=none∧QX Tryz.prog 61=none∧QD Tryz.prog 61=some (false,[D.raw (Value.slice none 0 0)])∧Program.concrete Tryz.prog 61=true:=by and_intros<;>kernel_rfl
@[go_sem] theorem JXC:Jn Tryz.prog 65=some 1∧QM Tryz.prog 65=some 8∧QA Tryz.prog 65=some false∧J4 Tryz.prog 65=none∧QH Tryz.prog 65=none∧QC Tryz.prog 65=false∧QV Tryz.prog 65=false∧QS Tryz.prog 65=none∧QK Tryz.prog 65=none∧QT Tryz.prog 65=none∧QX Tryz.prog 65=none∧QD Tryz.prog 65=some (false,[D.raw Value.nilFunc])∧Program.concrete Tryz.prog 65=true:=by and_intros<;>kernel_rfl
@[go_sem] theorem JXD:Jn Tryz.prog 66=some 1∧QM Tryz.prog 66=some 24∧QA Tryz.prog 66=some false∧J4 Tryz.prog 66=some 146∧QH Tryz.prog 66=none∧QC Tryz.prog 66=false∧QV Tryz.prog 66=false∧QS Tryz.prog 66=none∧QK Tryz.prog 66=none∧QT Tryz.prog 66=none∧QX Tryz.prog 66=none∧QD Tryz.prog 66=some (false,[D.raw (Value.slice none 0 0)])∧Program.concrete Tryz.prog 66=true:=by and_intros<;>kernel_rfl
@[go_sem] theorem JXE:Jn Tryz.prog 68=some 2∧QM Tryz.prog 68=some 32∧QA Tryz.prog 68=some true∧J4 Tryz.prog 68=none∧QH Tryz.prog 68=none∧QC Tryz.prog 68=false∧QV Tryz.prog 68=false∧QS Tryz.prog 68=none∧QK Tryz.prog 68=none∧QT Tryz.prog 68=none∧QX Tryz.prog 68=some [(0,1),(1,1)]∧QD Tryz.prog 68=some (true,[D.raw (Value.int IntKind.i64 (0)),D.raw (Value.slice none 0 0)])∧Program.concrete Tryz.prog 68=true:=by and_intros<;>kernel_rfl
@[go_sem] theorem JXF:Jn Tryz.prog 70=some 3∧QM Tryz.prog 70=some 24∧QA Tryz.prog 70=some true∧J4 Tryz.prog 70=none∧QH Tryz.prog 70=none∧QC Tryz.prog 70=false∧QV Tryz.prog 70=false∧QS Tryz.prog 70=none∧QK Tryz.prog 70=none∧QT Tryz.prog 70=some 3∧QX Tryz.prog 70=some [(0,1),(1,1),(2,1)]∧QD Tryz.prog 70=some (true,[D.raw (Value.int IntKind.i64 (0)),D.raw (Value.int IntKind.i64 (0)),D.raw (Value.int IntKind.i64 (0))])∧Program.concrete Tryz.prog 70=true:=by and_intros<;>kernel_rfl
@[go_sem] theorem JXG:Jn Tryz.prog 86=some 1∧QM Tryz.prog 86=some 8∧QA Tryz.prog 86=some false∧J4 Tryz.prog 86=none∧QH Tryz.prog 86=none∧QC Tryz.prog 86=false∧QV Tryz.prog 86=false∧QS Tryz.prog 86=none∧QK Tryz.prog 86=none∧QT Tryz.prog 86=none∧QX Tryz.prog 86=none∧QD Tryz.prog 86=some (false,[D.raw (Value.pointer none)])∧Program.concrete Tryz.prog 86=true:=by and_intros<;>kernel_rfl
@[go_sem] theorem JXH:Jn Tryz.prog 88=some 2∧QM Tryz.prog 88=some 32∧QA Tryz.prog 88=some true∧J4 Tryz.prog 88=none∧QH Tryz.prog 88=none∧QC Tryz.prog 88=false∧QV Tryz.prog 88=false∧QS Tryz.prog 88=none∧QK Tryz.prog 88=none∧QT Tryz.prog 88=none∧QX Tryz.prog 88=some [(0,1),(1,1)]∧QD Tryz.prog 88=some (true,[D.raw (Value.pointer none),D.raw (Value.slice none 0 0)])∧Program.concrete Tryz.prog 88=true:=by and_intros<;>kernel_rfl
@[go_sem] theorem JXJ:Jn Tryz.prog 90=some 2∧QM Tryz.prog 90=some 32∧QA Tryz.prog 90=some true∧J4 Tryz.prog 90=none∧QH Tryz.prog 90=none∧QC Tryz.prog 90=false∧QV Tryz.prog 90=false∧QS Tryz.prog 90=none∧QK Tryz.prog 90=none∧QT Tryz.prog 90=none∧QX Tryz.prog 90=some [(0,2)]∧QD Tryz.prog 90=some (true,[D.raw (Value.pointer none),D.raw (Value.slice none 0 0)])∧Program.concrete Tryz.prog 90=true:=by and_intros<;>kernel_rfl
@[go_sem] theorem JXK:Jn Tryz.prog 92=some 1∧QM Tryz.prog 92=some 24∧QA Tryz.prog 92=some false∧J4 Tryz.prog 92=some 9∧QH Tryz.prog 92=none∧QC Tryz.prog 92=false∧QV Tryz.prog 92=false∧QS Tryz.prog 92=none∧QK Tryz.prog 92=none∧QT Tryz.prog 92=none∧QX Tryz.prog 92=none∧QD Tryz.prog 92=some (false,[D.raw (Value.slice none 0 0)])∧Program.concrete Tryz.prog 92=true:=by and_intros<;>kernel_rfl
@[go_sem] theorem JXL:Jn Tryz.prog 93=some 1∧QM Tryz.prog 93=some 24∧QA Tryz.prog 93=some false∧J4 Tryz.prog 93=some 96∧QH Tryz.prog 93=none∧QC Tryz.prog 93=false∧QV Tryz.prog 93=false∧QS Tryz.prog 93=none∧QK Tryz.prog 93=none∧QT Tryz.prog 93=none∧QX Tryz.prog 93=none∧QD Tryz.prog 93=some (false,[D.raw (Value.slice none 0 0)])∧Program.concrete Tryz.prog 93=true:=by and_intros<;>kernel_rfl
@[go_sem] theorem JXM:Jn Tryz.prog 96=some 2∧QM Tryz.prog 96=some 16∧QA Tryz.prog 96=some true∧J4 Tryz.prog 96=none∧QH Tryz.prog 96=none∧QC Tryz.prog 96=false∧QV Tryz.prog 96=false∧QS Tryz.prog 96=none∧QK Tryz.prog 96=none∧QT Tryz.prog 96=some 2∧QX Tryz.prog 96=some [(0,1),(1,1)]∧QD Tryz.prog 96=some (true,[D.raw (Value.int IntKind.i64 (0)),D.raw (Value.int IntKind.i64 (0))])∧Program.concrete Tryz.prog 96=true:=by and_intros<;>kernel_rfl
@[go_sem] theorem JWU:Jn Tryz.prog 118=some 1∧QM Tryz.prog 118=some 8∧QA Tryz.prog 118=some false∧J4 Tryz.prog 118=none∧QH Tryz.prog 118=none∧QC Tryz.prog 118=false∧QV Tryz.prog 118=false∧QS Tryz.prog 118=none∧QK Tryz.prog 118=none∧QT Tryz.prog 118=none∧QX Tryz.prog 118=none∧QD Tryz.prog 118=some (false,[D.raw Value.nilFunc])∧Program.concrete Tryz.prog 118=true:=by and_intros<;>kernel_rfl
@[go_sem] theorem JWV:Jn Tryz.prog 120=some 1∧QM Tryz.prog 120=some 1∧QA Tryz.prog 120=some false∧J4 Tryz.prog 120=none∧QH Tryz.prog 120=some IntKind.i8∧QC Tryz.prog 120=false∧QV Tryz.prog 120=false∧QS Tryz.prog 120=none∧QK Tryz.prog 120=none∧QT Tryz.prog 120=none∧QX Tryz.prog 120=none∧QD Tryz.prog 120=some (false,[D.raw (Value.int IntKind.i8 (0))])∧Program.concrete Tryz.prog 120=true:=by and_intros<;>kernel_rfl
@[go_sem] theorem JWW:Jn Tryz.prog 122=some 3∧QM Tryz.prog 122=some 40∧QA Tryz.prog 122=some true∧J4 Tryz.prog 122=none∧QH Tryz.prog 122=none∧QC Tryz.prog 122=false∧QV Tryz.prog 122=false∧QS Tryz.prog 122=none∧QK Tryz.prog 122=none∧QT Tryz.prog 122=none∧QX Tryz.prog 122=some [(0,1),(1,1),(2,1)]∧QD Tryz.prog 122=some (true,[D.raw (Value.slice none 0 0),D.raw (Value.int IntKind.i64 (0)),D.raw (Value.int IntKind.i8 (0))])∧Program.concrete Tryz.prog 122=true:=by and_intros<;>kernel_rfl
@[go_sem] theorem JWX:Jn Tryz.prog 124=some 6∧QM Tryz.prog 124=some 64∧QA Tryz.prog 124=some true∧J4 Tryz.prog 124=none∧QH Tryz.prog 124=none∧QC Tryz.prog 124=false∧QV Tryz.prog 124=false∧QS Tryz.prog 124=none∧QK Tryz.prog 124=none∧QT Tryz.prog 124=none∧QX Tryz.prog 124=some [(0,3),(3,1),(4,1),(5,1)]∧QD Tryz.prog 124=some (true,[D.raw (Value.slice none 0 0),D.raw (Value.int IntKind.i64 (0)),D.raw (Value.int IntKind.i8 (0)),D.raw (Value.int IntKind.u8 (0)),D.raw (Value.int IntKind.i64 (0)),D.raw (Value.int IntKind.i64 (0))])∧Program.concrete Tryz.prog 124=true:=by and_intros<;>kernel_rfl
@[go_sem] theorem JWY:Jn Tryz.prog 132=some 1∧QM Tryz.prog 132=some 8∧QA Tryz.prog 132=some false∧J4 Tryz.prog 132=none∧QH Tryz.prog 132=none∧QC Tryz.prog 132=false∧QV Tryz.prog 132=false∧QS Tryz.prog 132=none∧QK Tryz.prog 132=none∧QT Tryz.prog 132=none∧QX Tryz.prog 132=none∧QD Tryz.prog 132=some (false,[D.raw (Value.pointer none)])∧Program.concrete Tryz.prog 132=true:=by and_intros<;>kernel_rfl
@[go_sem] theorem JWZ:Jn Tryz.prog 137=some 2∧QM Tryz.prog 137=some 32∧QA Tryz.prog 137=some true∧J4 Tryz.prog 137=none∧QH Tryz.prog 137=none∧QC Tryz.prog 137=false∧QV Tryz.prog 137=false∧QS Tryz.prog 137=none∧QK Tryz.prog 137=none∧QT Tryz.prog 137=none∧QX Tryz.prog 137=some [(0,1),(1,1)]∧QD Tryz.prog 137=some (true,[D.raw (Value.slice none 0 0),D.raw (Value.int IntKind.i64 (0))])∧Program.concrete Tryz.prog 137=true:=by and_intros<;>kernel_rfl
@[go_sem] theorem JWa:Jn Tryz.prog 146=some 3∧QM Tryz.prog 146=some 24∧QA Tryz.prog 146=some true∧J4 Tryz.prog 146=none∧QH Tryz.prog 146=none∧QC Tryz.prog 146=false∧QV Tryz.prog 146=false∧QS Tryz.prog 146=none∧QK Tryz.prog 146=none∧QT Tryz.prog 146=some 3∧QX Tryz.prog 146=some [(0,1),(1,1),(2,1)]∧QD Tryz.prog 146=some (true,[D.raw (Value.int IntKind.i64 (0)),D.raw (Value.int IntKind.i64 (0)),D.raw (Value.int IntKind.i64 (0))])∧Program.concrete Tryz.prog 146=true:=by and_intros<;>kernel_rfl
@[go_sem] theorem JWb:Jn Tryz.prog 148=some 3∧QM Tryz.prog 148=some 48∧QA Tryz.prog 148=some true∧J4 Tryz.prog 148=none∧QH Tryz.prog 148=none∧QC Tryz.prog 148=false∧QV Tryz.prog 148=false∧QS Tryz.prog 148=some (3,1)∧QK Tryz.prog 148=some (3,1,false)∧QT Tryz.prog 148=none∧QX Tryz.prog 148=some [(0,1),(1,1),(2,1)]∧QD Tryz.prog 148=some (true,[D.raw (Value.string (ByteArray.mk (List.toArray []))),D.raw (Value.string (ByteArray.mk (List.toArray []))),D.raw (Value.string (ByteArray.mk (List.toArray [])))])∧Program.concrete Tryz.prog 148=true:=by and_intros<;>kernel_rfl
@[go_sem] theorem JWc:Jn Tryz.prog 162=some 1∧QM Tryz.prog 162=some 8∧QA Tryz.prog 162=some false∧J4 Tryz.prog 162=none∧QH Tryz.prog 162=none∧QC Tryz.prog 162=false∧QV Tryz.prog 162=false∧QS Tryz.prog 162=none∧QK Tryz.prog 162=none∧QT Tryz.prog 162=none∧QX Tryz.prog 162=none∧QD Tryz.prog 162=some (false,[D.raw Value.nilFunc])∧Program.concrete Tryz.prog 162=true:=by and_intros<;>kernel_rfl
@[go_sem] theorem JWd:Jn Tryz.prog 163=some 1∧QM Tryz.prog 163=some 8∧QA Tryz.prog 163=some false∧J4 Tryz.prog 163=none∧QH Tryz.prog 163=none∧QC Tryz.prog 163=false∧QV Tryz.prog 163=false∧QS Tryz.prog 163=none∧QK Tryz.prog 163=none∧QT Tryz.prog 163=none∧QX Tryz.prog 163=none∧QD Tryz.prog 163=some (false,[D.raw Value.nilFunc])∧Program.concrete Tryz.prog 163=true:=by and_intros<;>kernel_rfl
@[go_sem] theorem JWe:Jn Tryz.prog 166=some 1∧QM Tryz.prog 166=some 16∧QA Tryz.prog 166=some false∧J4 Tryz.prog 166=none∧QH Tryz.prog 166=none∧QC Tryz.prog 166=false∧QV Tryz.prog 166=false∧QS Tryz.prog 166=none∧QK Tryz.prog 166=none∧QT Tryz.prog 166=none∧QX Tryz.prog 166=none∧QD Tryz.prog 166=some (false,[D.raw Value.nilIface])∧Program.concrete Tryz.prog 166=false:=by and_intros<;>kernel_rfl
@[go_sem] theorem JWf:Jn Tryz.prog 170=some 1∧QM Tryz.prog 170=some 8∧QA Tryz.prog 170=some false∧J4 Tryz.prog 170=none∧QH Tryz.prog 170=none∧QC Tryz.prog 170=false∧QV Tryz.prog 170=false∧QS Tryz.prog 170=none∧QK Tryz.prog 170=none∧QT Tryz.prog 170=none∧QX Tryz.prog 170=none∧QD Tryz.prog 170=some (false,[D.raw (Value.pointer none)])∧Program.concrete Tryz.prog 170=true:=by and_intros<;>kernel_rfl
@[go_sem] theorem JWg:Jn Tryz.prog 172=some 1∧QM Tryz.prog 172=some 8∧QA Tryz.prog 172=some true∧J4 Tryz.prog 172=none∧QH Tryz.prog 172=none∧QC Tryz.prog 172=false∧QV Tryz.prog 172=false∧QS Tryz.prog 172=none∧QK Tryz.prog 172=none∧QT Tryz.prog 172=some 1∧QX Tryz.prog 172=some [(0,1)]∧QD Tryz.prog 172=some (true,[D.raw (Value.int IntKind.i64 (0))])∧Program.concrete Tryz.prog 172=true:=by and_intros<;>kernel_rfl
@[go_sem] theorem JWh:Jn Tryz.prog 195=some 1∧QM Tryz.prog 195=some 8∧QA Tryz.prog 195=some false∧J4 Tryz.prog 195=none∧QH Tryz.prog 195=none∧QC Tryz.prog 195=false∧QV Tryz.prog 195=false∧QS Tryz.prog 195=none∧QK Tryz.prog 195=none∧QT Tryz.prog 195=none∧QX Tryz.prog 195=none∧QD Tryz.prog 195=some (false,[D.raw Value.nilFunc])∧Program.concrete Tryz.prog 195=true:=by and_intros<;>kernel_rfl
@[go_sem] theorem JWi:Jn Tryz.prog 197=some 1∧QM Tryz.prog 197=some 8∧QA Tryz.prog 197=some false∧J4 Tryz.prog 197=none∧QH Tryz.prog 197=none∧QC Tryz.prog 197=false∧QV Tryz.prog 197=false∧QS Tryz.prog 197=none∧QK Tryz.prog 197=none∧QT Tryz.prog 197=none∧QX Tryz.prog 197=none∧QD Tryz.prog 197=some (false,[D.raw Value.nilFunc])∧Program.concrete Tryz.prog 197=true:=by and_intros<;>kernel_rfl
@[go_sem] theorem JWj:Jn Tryz.prog 198=some 1∧QM Tryz.prog 198=some 8∧QA Tryz.prog 198=some false∧J4 Tryz.prog 198=none∧QH Tryz.prog 198=none∧QC Tryz.prog 198=false∧QV Tryz.prog 198=false∧QS Tryz.prog 198=none∧QK Tryz.prog 198=none∧QT Tryz.prog 198=none∧QX Tryz.prog 198=none∧QD Tryz.prog 198=some (false,[D.raw Value.nilFunc])∧Program.concrete Tryz.prog 198=true:=by and_intros<;>kernel_rfl
@[go_sem] theorem JWk:Jn Tryz.prog 199=some 1∧QM Tryz.prog 199=some 8∧QA Tryz.prog 199=some false∧J4 Tryz.prog 199=none∧QH Tryz.prog 199=none∧QC Tryz.prog 199=false∧QV Tryz.prog 199=false∧QS Tryz.prog 199=none∧QK Tryz.prog 199=none∧QT Tryz.prog 199=none∧QX Tryz.prog 199=none∧QD Tryz.prog 199=some (false,[D.raw (Value.pointer none)])∧Program.concrete Tryz.prog 199=true:=by and_intros<;>kernel_rfl
@[go_sem] theorem JWm:Jn Tryz.prog 200=some 1∧QM Tryz.prog 200=some 8∧QA Tryz.prog 200=some false∧J4 Tryz.prog 200=none∧QH Tryz.prog 200=some IntKind.u64∧QC Tryz.prog 200=false∧QV Tryz.prog 200=false∧QS Tryz.prog 200=none∧QK Tryz.prog 200=none∧QT Tryz.prog 200=none∧QX Tryz.prog 200=none∧QD Tryz.prog 200=some (false,[D.raw (Value.int IntKind.u64 (0))])∧Program.concrete Tryz.prog 200=true:=by and_intros<;>kernel_rfl
@[go_sem] theorem JWn:Jn Tryz.prog 201=some 1∧QM Tryz.prog 201=some 8∧QA Tryz.prog 201=some false∧J4 Tryz.prog 201=none∧QH Tryz.prog 201=none∧QC Tryz.prog 201=false∧QV Tryz.prog 201=false∧QS Tryz.prog 201=none∧QK Tryz.prog 201=none∧QT Tryz.prog 201=none∧QX Tryz.prog 201=none∧QD Tryz.prog 201=some (false,[D.raw (Value.pointer none)])∧Program.concrete Tryz.prog 201=true:=by and_intros<;>kernel_rfl
@[go_sem] theorem JWo:Jn Tryz.prog 206=some 1∧QM Tryz.prog 206=some 8∧QA Tryz.prog 206=some false∧J4 Tryz.prog 206=none∧QH Tryz.prog 206=none∧QC Tryz.prog 206=false∧QV Tryz.prog 206=false∧QS Tryz.prog 206=none∧QK Tryz.prog 206=none∧QT Tryz.prog 206=none∧QX Tryz.prog 206=none∧QD Tryz.prog 206=some (false,[D.raw Value.nilFunc])∧Program.concrete Tryz.prog 206=true:=by and_intros<;>kernel_rfl
@[go_sem] theorem JWp:Jn Tryz.prog 207=some 1∧QM Tryz.prog 207=some 8∧QA Tryz.prog 207=some false∧J4 Tryz.prog 207=none∧QH Tryz.prog 207=none∧QC Tryz.prog 207=false∧QV Tryz.prog 207=false∧QS Tryz.prog 207=none∧QK Tryz.prog 207=none∧QT Tryz.prog 207=none∧QX Tryz.prog 207=none∧QD Tryz.prog 207=some (false,[D.raw Value.nilFunc])∧Program.concrete Tryz.prog 207=true:=by and_intros<;>kernel_rfl
@[go_sem] theorem JWq:Jn Tryz.prog 209=some 3∧QM Tryz.prog 209=some 24∧QA Tryz.prog 209=some true∧J4 Tryz.prog 209=none∧QH Tryz.prog 209=none∧QC Tryz.prog 209=false∧QV Tryz.prog 209=false∧QS Tryz.prog 209=some (3,1)∧QK Tryz.prog 209=some (3,1,false)∧QT Tryz.prog 209=none∧QX Tryz.prog 209=some [(0,1),(1,1),(2,1)]∧QD Tryz.prog 209=some (true,[D.raw (Value.int IntKind.i64 (0)),D.raw (Value.int IntKind.i64 (0)),D.raw (Value.int IntKind.i64 (0))])∧Program.concrete Tryz.prog 209=true:=by and_intros<;>kernel_rfl
@[go_sem] theorem JWs:Jn Tryz.prog 230=some 1∧QM Tryz.prog 230=some 8∧QA Tryz.prog 230=some false∧J4 Tryz.prog 230=none∧QH Tryz.prog 230=none∧QC Tryz.prog 230=false∧QV Tryz.prog 230=false∧QS Tryz.prog 230=none∧QK Tryz.prog 230=none∧QT Tryz.prog 230=none∧QX Tryz.prog 230=none∧QD Tryz.prog 230=some (false,[D.raw Value.nilFunc])∧Program.concrete Tryz.prog 230=true:=by and_intros<;>kernel_rfl
@[go_sem] theorem JWt:Jn Tryz.prog 245=some 1∧QM Tryz.prog 245=some 8∧QA Tryz.prog 245=some false∧J4 Tryz.prog 245=none∧QH Tryz.prog 245=some IntKind.u64∧QC Tryz.prog 245=false∧QV Tryz.prog 245=false∧QS Tryz.prog 245=none∧QK Tryz.prog 245=none∧QT Tryz.prog 245=none∧QX Tryz.prog 245=none∧QD Tryz.prog 245=some (false,[D.raw (Value.int IntKind.u64 (0))])∧Program.concrete Tryz.prog 245=true:=by and_intros<;>kernel_rfl
@[go_sem] theorem JWu:Jn Tryz.prog 250=some 1∧QM Tryz.prog 250=some 8∧QA Tryz.prog 250=some false∧J4 Tryz.prog 250=none∧QH Tryz.prog 250=none∧QC Tryz.prog 250=false∧QV Tryz.prog 250=false∧QS Tryz.prog 250=none∧QK Tryz.prog 250=none∧QT Tryz.prog 250=none∧QX Tryz.prog 250=none∧QD Tryz.prog 250=some (false,[D.raw (Value.pointer none)])∧Program.concrete Tryz.prog 250=true:=by and_intros<;>kernel_rfl
@[go_sem] theorem JWv:Jn Tryz.prog 258=some 1∧QM Tryz.prog 258=some 4∧QA Tryz.prog 258=some false∧J4 Tryz.prog 258=none∧QH Tryz.prog 258=some IntKind.u32∧QC Tryz.prog 258=false∧QV Tryz.prog 258=false∧QS Tryz.prog 258=none∧QK Tryz.prog 258=none∧QT Tryz.prog 258=none∧QX Tryz.prog 258=none∧QD Tryz.prog 258=some (false,[D.raw (Value.int IntKind.u32 (0))])∧Program.concrete Tryz.prog 258=true:=by and_intros<;>kernel_rfl
@[go_sem] theorem JWw:Jn Tryz.prog 272=some 20∧QM Tryz.prog 272=some 160∧QA Tryz.prog 272=some true∧J4 Tryz.prog 272=none∧QH Tryz.prog 272=none∧QC Tryz.prog 272=false∧QV Tryz.prog 272=false∧QS Tryz.prog 272=some (20,1)∧QK Tryz.prog 272=some (20,1,false)∧QT Tryz.prog 272=none∧QX Tryz.prog 272=some [(0,1),(1,1),(2,1),(3,1),(4,1),(5,1),(6,1),(7,1),(8,1),(9,1),(10,1),(11,1),(12,1),(13,1),(14,1),(15,1),(16,1),(17,1),(18,1),(19,1)]∧Program.concrete Tryz.prog 272=true:=by and_intros<;>kernel_rfl
@[go_sem] theorem JWx:Jn Tryz.prog 276=some 256∧QM Tryz.prog 276=some 256∧QA Tryz.prog 276=some true∧J4 Tryz.prog 276=none∧QH Tryz.prog 276=none∧QC Tryz.prog 276=false∧QV Tryz.prog 276=false∧QS Tryz.prog 276=some (256,1)∧QK Tryz.prog 276=some (256,1,false)∧QT Tryz.prog 276=none∧Program.concrete Tryz.prog 276=true:=by and_intros<;>kernel_rfl
@[go_sem] theorem JWy:Jn Tryz.prog 278=some 2∧QM Tryz.prog 278=some 2∧QA Tryz.prog 278=some true∧J4 Tryz.prog 278=none∧QH Tryz.prog 278=none∧QC Tryz.prog 278=false∧QV Tryz.prog 278=false∧QS Tryz.prog 278=none∧QK Tryz.prog 278=none∧QT Tryz.prog 278=some 2∧QX Tryz.prog 278=some [(0,1),(1,1)]∧QD Tryz.prog 278=some (true,[D.raw (Value.int IntKind.u8 (0)),D.raw (Value.int IntKind.u8 (0))])∧Program.concrete Tryz.prog 278=true:=by and_intros<;>kernel_rfl
@[go_sem] theorem JWz:Jn Tryz.prog 279=some 32∧QM Tryz.prog 279=some 32∧QA Tryz.prog 279=some true∧J4 Tryz.prog 279=none∧QH Tryz.prog 279=none∧QC Tryz.prog 279=false∧QV Tryz.prog 279=false∧QS Tryz.prog 279=some (16,2)∧QK Tryz.prog 279=some (16,2,true)∧QT Tryz.prog 279=none∧QX Tryz.prog 279=some [(0,2),(2,2),(4,2),(6,2),(8,2),(10,2),(12,2),(14,2),(16,2),(18,2),(20,2),(22,2),(24,2),(26,2),(28,2),(30,2)]∧Program.concrete Tryz.prog 279=true:=by and_intros<;>kernel_rfl
@[go_sem] theorem JW1:Jn Tryz.prog 281=some 32∧QM Tryz.prog 281=some 32∧QA Tryz.prog 281=some true∧J4 Tryz.prog 281=none∧QH Tryz.prog 281=none∧QC Tryz.prog 281=false∧QV Tryz.prog 281=false∧QS Tryz.prog 281=some (32,1)∧QK Tryz.prog 281=some (32,1,false)∧QT Tryz.prog 281=none∧QX Tryz.prog 281=some [(0,1),(1,1),(2,1),(3,1),(4,1),(5,1),(6,1),(7,1),(8,1),(9,1),(10,1),(11,1),(12,1),(13,1),(14,1),(15,1),(16,1),(17,1),(18,1),(19,1),(20,1),(21,1),(22,1),(23,1),(24,1),(25,1),(26,1),(27,1),(28,1),(29,1),(30,1),(31,1)]∧Program.concrete Tryz.prog 281=true:=by and_intros<;>kernel_rfl
@[go_sem] theorem JW2:Jn Tryz.prog 282=some 64∧QM Tryz.prog 282=some 64∧QA Tryz.prog 282=some true∧J4 Tryz.prog 282=none∧QH Tryz.prog 282=none∧QC Tryz.prog 282=false∧QV Tryz.prog 282=false∧QS Tryz.prog 282=some (64,1)∧QK Tryz.prog 282=some (64,1,false)∧QT Tryz.prog 282=none∧Program.concrete Tryz.prog 282=true:=by and_intros<;>kernel_rfl
@[go_sem] theorem JXT:JH3 Tryz.prog 86=true:=by kernel_rfl
@[go_sem] theorem JXQ:Qh Tryz.prog 25 0=some (0,1)∧Qh Tryz.prog 25 1=some (1,1)∧Qh Tryz.prog 31 0=some (0,1)∧Qh Tryz.prog 31 1=some (1,1)∧Qh Tryz.prog 34 0=some (0,1)∧Qh Tryz.prog 34 1=some (1,1)∧Qh Tryz.prog 34 2=some (2,1)∧Qh Tryz.prog 48 0=some (0,1)∧Qh Tryz.prog 48 1=some (1,1)∧Qh Tryz.prog 68 0=some (0,1)∧Qh Tryz.prog 68 1=some (1,1)∧Qh Tryz.prog 70 0=some (0,1)∧Qh Tryz.prog 70 1=some (1,1)∧Qh Tryz.prog 70 2=some (2,1)∧Qh Tryz.prog 88 0=some (0,1)∧Qh Tryz.prog 88 1=some (1,1)∧Qh Tryz.prog 90 0=some (0,2)∧Qh Tryz.prog 96 0=some (0,1)∧Qh Tryz.prog 96 1=some (1,1)∧Qh Tryz.prog 105 2=some (2,1)∧Qh Tryz.prog 105 3=some (3,1)∧Qh Tryz.prog 107 0=some (0,1)∧Qh Tryz.prog 107 1=some (1,1)∧Qh Tryz.prog 112 0=some (0,3)∧Qh Tryz.prog 112 1=some (3,1)∧Qh Tryz.prog 122 0=some (0,1)∧Qh Tryz.prog 122 1=some (1,1)∧Qh Tryz.prog 122 2=some (2,1)∧Qh Tryz.prog 124 0=some (0,3)∧Qh Tryz.prog 124 1=some (3,1)∧Qh Tryz.prog 124 2=some (4,1)∧Qh Tryz.prog 124 3=some (5,1)∧Qh Tryz.prog 137 0=some (0,1)∧Qh Tryz.prog 137 1=some (1,1)∧Qh Tryz.prog 146 0=some (0,1)∧Qh Tryz.prog 146 1=some (1,1)∧Qh Tryz.prog 146 2=some (2,1)∧Qh Tryz.prog 172 0=some (0,1)∧Qh Tryz.prog 185 0=some (0,1)∧Qh Tryz.prog 185 1=some (1,1)∧Qh Tryz.prog 187 0=some (0,1)∧Qh Tryz.prog 189 0=some (0,1)∧Qh Tryz.prog 189 1=some (1,1)∧Qh Tryz.prog 278 0=some (0,1)∧Qh Tryz.prog 278 1=some (1,1):=by and_intros<;>kernel_rfl
@[go_sem] theorem JXN:JO Tryz.prog 1=false∧JO Tryz.prog 13=true∧JO Tryz.prog 14=true∧JO Tryz.prog 15=true∧JO Tryz.prog 16=true∧JO Tryz.prog 17=true∧JO Tryz.prog 18=true∧JO Tryz.prog 19=true∧JO Tryz.prog 20=true∧JO Tryz.prog 21=true∧JO Tryz.prog 22=true∧JO Tryz.prog 23=true∧JO Tryz.prog 24=true∧JO Tryz.prog 25=true∧JO Tryz.prog 26=true∧JO Tryz.prog 27=true∧JO Tryz.prog 28=true∧JO Tryz.prog 29=true∧JO Tryz.prog 30=true∧JO Tryz.prog 31=true∧JO Tryz.prog 32=true∧JO Tryz.prog 33=true∧JO Tryz.prog 34=true∧JO Tryz.prog 35=true∧JO Tryz.prog 36=true∧JO Tryz.prog 37=true∧JO Tryz.prog 38=true∧JO Tryz.prog 39=true∧JO Tryz.prog 40=true∧JO Tryz.prog 41=true∧JO Tryz.prog 42=true∧JO Tryz.prog 43=true∧JO Tryz.prog 44=true∧JO Tryz.prog 45=true∧JO Tryz.prog 46=true∧JO Tryz.prog 47=true∧JO Tryz.prog 48=true∧JO Tryz.prog 49=true∧JO Tryz.prog 50=true∧JO Tryz.prog 51=true∧JO Tryz.prog 52=true∧JO Tryz.prog 53=true∧JO Tryz.prog 54=true∧JO Tryz.prog 55=true∧JO Tryz.prog 56=true∧JO Tryz.prog 57=true∧JO Tryz.prog 58=true∧JO Tryz.prog 59=true∧JO Tryz.prog 60=true∧JO Tryz.prog 61=true∧JO Tryz.prog 62=true∧JO Tryz.prog 63=true∧JO Tryz.prog 64=true∧JO Tryz.prog 65=true∧JO Tryz.prog 66=true∧JO Tryz.prog 67=true∧JO Tryz.prog 68=true∧JO Tryz.prog 69=true∧JO Tryz.prog 70=true∧JO Tryz.prog 71=true∧JO Tryz.prog 72=true∧JO Tryz.prog 73=true∧JO Tryz.prog 74=true∧JO Tryz.prog 75=true∧JO Tryz.prog 76=true∧JO Tryz.prog 77=true∧JO Tryz.prog 78=true∧JO Tryz.prog 79=true∧JO Tryz.prog 80=true∧JO Tryz.prog 81=true∧JO Tryz.prog 82=true∧JO Tryz.prog 83=true∧JO Tryz.prog 84=true∧JO Tryz.prog 85=true∧JO Tryz.prog 86=true∧JO Tryz.prog 87=true∧JO Tryz.prog 88=true∧JO Tryz.prog 89=true∧JO Tryz.prog 90=true∧JO Tryz.prog 91=true∧JO Tryz.prog 92=true∧JO Tryz.prog 93=true∧JO Tryz.prog 94=true∧JO Tryz.prog 95=true∧JO Tryz.prog 96=true∧JO Tryz.prog 97=true∧JO Tryz.prog 98=true∧JO Tryz.prog 99=true∧JO Tryz.prog 100=true∧JO Tryz.prog 101=true∧JO Tryz.prog 102=true∧JO Tryz.prog 103=true∧JO Tryz.prog 104=true∧JO Tryz.prog 105=true∧JO Tryz.prog 106=true∧JO Tryz.prog 107=true∧JO Tryz.prog 108=true∧JO Tryz.prog 109=true∧JO Tryz.prog 110=true∧JO Tryz.prog 111=true∧JO Tryz.prog 112=true∧JO Tryz.prog 113=true∧JO Tryz.prog 114=true∧JO Tryz.prog 115=true∧JO Tryz.prog 116=true∧JO Tryz.prog 117=true∧JO Tryz.prog 118=true∧JO Tryz.prog 119=true∧JO Tryz.prog 120=true∧JO Tryz.prog 121=true∧JO Tryz.prog 122=true∧JO Tryz.prog 123=true∧JO Tryz.prog 124=true∧JO Tryz.prog 125=true∧JO Tryz.prog 126=true∧JO Tryz.prog 127=true∧JO Tryz.prog 128=true∧JO Tryz.prog 129=true∧JO Tryz.prog 130=true∧JO Tryz.prog 131=true∧JO Tryz.prog 132=true∧JO Tryz.prog 133=true∧JO Tryz.prog 134=true∧JO Tryz.prog 135=true∧JO Tryz.prog 136=true∧JO Tryz.prog 137=true∧JO Tryz.prog 138=true∧JO Tryz.prog 139=true∧JO Tryz.prog 140=true∧JO Tryz.prog 141=true∧JO Tryz.prog 142=true∧JO Tryz.prog 143=true∧JO Tryz.prog 144=true∧JO Tryz.prog 146=true∧JO Tryz.prog 147=true∧JO Tryz.prog 148=true∧JO Tryz.prog 149=true∧JO Tryz.prog 150=true∧JO Tryz.prog 151=true∧JO Tryz.prog 152=true∧JO Tryz.prog 153=true∧JO Tryz.prog 154=true∧JO Tryz.prog 155=true∧JO Tryz.prog 156=true∧JO Tryz.prog 157=true∧JO Tryz.prog 158=true∧JO Tryz.prog 159=true∧JO Tryz.prog 160=true∧JO Tryz.prog 161=true∧JO Tryz.prog 162=true∧JO Tryz.prog 163=true∧JO Tryz.prog 164=true∧JO Tryz.prog 165=true∧JO Tryz.prog 166=true∧JO Tryz.prog 167=true∧JO Tryz.prog 168=true∧JO Tryz.prog 169=true∧JO Tryz.prog 170=true∧JO Tryz.prog 171=true∧JO Tryz.prog 172=true∧JO Tryz.prog 173=true∧JO Tryz.prog 174=true∧JO Tryz.prog 179=false∧JO Tryz.prog 180=true∧JO Tryz.prog 181=true∧JO Tryz.prog 182=true∧JO Tryz.prog 183=true∧JO Tryz.prog 184=true∧JO Tryz.prog 185=true∧JO Tryz.prog 186=true∧JO Tryz.prog 187=true∧JO Tryz.prog 188=true∧JO Tryz.prog 189=true∧JO Tryz.prog 190=true∧JO Tryz.prog 191=true∧JO Tryz.prog 192=true∧JO Tryz.prog 193=true∧JO Tryz.prog 194=true∧JO Tryz.prog 195=true∧JO Tryz.prog 196=true∧JO Tryz.prog 197=false∧JO Tryz.prog 198=true∧JO Tryz.prog 199=true∧JO Tryz.prog 200=true∧JO Tryz.prog 205=true∧JO Tryz.prog 206=false∧JO Tryz.prog 207=true∧JO Tryz.prog 208=true∧JO Tryz.prog 209=true∧JO Tryz.prog 210=true∧JO Tryz.prog 211=true∧JO Tryz.prog 212=true∧JO Tryz.prog 213=true∧JO Tryz.prog 214=true∧JO Tryz.prog 215=false∧JO Tryz.prog 216=true∧JO Tryz.prog 218=true∧JO Tryz.prog 219=true∧JO Tryz.prog 220=true∧JO Tryz.prog 241=true∧JO Tryz.prog 246=true:=by and_intros<;>kernel_rfl
@[go_sem] theorem JXS:JDl Tryz.prog 9=none∧JDl Tryz.prog 221=some (3,29)∧JDl Tryz.prog 222=some (3,34):=by and_intros<;>kernel_rfl
@[go_sem] theorem JXR:JVX Tryz.prog 3=some 0:=by kernel_rfl
@[go_sem] theorem JXO:JHS Tryz.prog 172=false∧JHS Tryz.prog 185=false∧JHS Tryz.prog 187=false∧JHS Tryz.prog 189=false:=by and_intros<;>kernel_rfl
@[go_sem] theorem JXP:JBQ Tryz.prog 9 "meterworks/card.made" = none∧JBQ Tryz.prog 172 "meterworks/card.made" = none∧JBQ Tryz.prog 185 "meterworks/card.made" = some 239∧JBQ Tryz.prog 187 "meterworks/card.made" = some 240∧JBQ Tryz.prog 189 "meterworks/card.made" = some 242∧JBQ Tryz.prog 284 "meterworks/card.made" = none:=by and_intros<;>kernel_rfl
end Go.Mw
namespace Go.Proofs
open Go.Shelf
def Tryz.lays100_ren:Go.Shelf.Ren:=⟨fun|100=>106|207=>147|n=>n,fun|9=>9|4=>4|3=>3|n=>n,fun|n=>n⟩
theorem Tryz.lays100:Go.Proofs.Lays.n100 Tryz.prog Tryz.lays100_ren where
 mixed:=by kernel_rfl
 f100:=Tryz.func106.trans (congrArg some JJ)
 f207:=Tryz.func147.trans (congrArg some JJ)
 t3:=Tryz.underlying3
 a3:=Tryz.isAgg3
 z3:=Tryz.sizeOf3
 v3:=Tryz.zeroValue3
 t4:=Tryz.underlying4
 a4:=Tryz.isAgg4
 z4:=Tryz.sizeOf4
 v4:=Tryz.zeroValue4
 t9:=Tryz.underlying9
 a9:=Tryz.isAgg9
 z9:=Tryz.sizeOf9
 v9:=Tryz.zeroValue9
def Tryz.lays102_ren:Go.Shelf.Ren:=⟨fun|102=>108|209=>149|207=>147|n=>n,fun|9=>9|4=>4|3=>3|n=>n,fun|n=>n⟩
theorem Tryz.lays102:Go.Proofs.Lays.n102 Tryz.prog Tryz.lays102_ren where
 mixed:=by kernel_rfl
 f102:=Tryz.func108.trans (congrArg some JJ)
 f207:=Tryz.func147.trans (congrArg some JJ)
 f209:=Tryz.func149.trans (congrArg some JJ)
 t3:=Tryz.underlying3
 a3:=Tryz.isAgg3
 z3:=Tryz.sizeOf3
 v3:=Tryz.zeroValue3
 t4:=Tryz.underlying4
 a4:=Tryz.isAgg4
 z4:=Tryz.sizeOf4
 v4:=Tryz.zeroValue4
 t9:=Tryz.underlying9
 a9:=Tryz.isAgg9
 z9:=Tryz.sizeOf9
 v9:=Tryz.zeroValue9
def Tryz.lays105_ren:Go.Shelf.Ren:=⟨fun|105=>131|212=>164|99=>165|165=>133|166=>103|170=>166|169=>50|263=>194|264=>195|206=>196|240=>146|241=>167|276=>179|277=>197|n=>n,fun|9=>9|3=>3|4=>4|20=>20|0=>0|46=>200|109=>232|5=>5|72=>88|76=>167|51=>258|146=>262|53=>245|148=>264|70=>86|37=>53|75=>166|127=>170|164=>250|80=>97|n=>n,fun|n=>n⟩
theorem Tryz.lays105:Go.Proofs.Lays.n105 Tryz.prog Tryz.lays105_ren where
 mixed:=by kernel_rfl
 f99:=Tryz.func165.trans (congrArg some JJ)
 f105:=Tryz.func131.trans (congrArg some JJ)
 f165:=Tryz.func133.trans (congrArg some JJ)
 f166:=Tryz.func103.trans (congrArg some JJ)
 f169:=Tryz.func50.trans (congrArg some JJ)
 f170:=Tryz.func166.trans (congrArg some JJ)
 f206:=Tryz.func196.trans (congrArg some JJ)
 f212:=Tryz.func164.trans (congrArg some JJ)
 f240:=Tryz.func146.trans (congrArg some JJ)
 f241:=Tryz.func167.trans (congrArg some JJ)
 f263:=Tryz.func194.trans (congrArg some JJ)
 f264:=Tryz.func195.trans (congrArg some JJ)
 f276:=Tryz.func179.trans (congrArg some JJ)
 f277:=Tryz.func197.trans (congrArg some JJ)
 t0:=Tryz.underlying0
 a0:=Tryz.isAgg0
 z0:=Tryz.sizeOf0
 v0:=Tryz.zeroValue0
 t3:=Tryz.underlying3
 a3:=Tryz.isAgg3
 z3:=Tryz.sizeOf3
 v3:=Tryz.zeroValue3
 t4:=Tryz.underlying4
 a4:=Tryz.isAgg4
 z4:=Tryz.sizeOf4
 v4:=Tryz.zeroValue4
 t5:=Tryz.underlying5
 a5:=Tryz.isAgg5
 z5:=Tryz.sizeOf5
 v5:=Tryz.zeroValue5
 t9:=Tryz.underlying9
 a9:=Tryz.isAgg9
 z9:=Tryz.sizeOf9
 v9:=Tryz.zeroValue9
 t20:=Tryz.underlying20
 a20:=Tryz.isAgg20
 z20:=Tryz.sizeOf20
 v20:=Tryz.zeroValue20
 t37:=Tryz.underlying53
 a37:=Tryz.isAgg53
 z37:=Tryz.sizeOf53
 v37:=Tryz.zeroValue53
 t46:=Tryz.underlying200
 a46:=Tryz.isAgg200
 z46:=Tryz.sizeOf200
 v46:=Tryz.zeroValue200
 t51:=Tryz.underlying258
 a51:=Tryz.isAgg258
 z51:=Tryz.sizeOf258
 v51:=Tryz.zeroValue258
 t53:=Tryz.underlying245
 a53:=Tryz.isAgg245
 z53:=Tryz.sizeOf245
 v53:=Tryz.zeroValue245
 t70:=Tryz.underlying86
 a70:=Tryz.isAgg86
 z70:=Tryz.sizeOf86
 v70:=Tryz.zeroValue86
 t72:=Tryz.underlying88
 a72:=Tryz.isAgg88
 z72:=Tryz.sizeOf88
 v72:=Tryz.zeroValue88
 t75:=Tryz.underlying166
 a75:=Tryz.isAgg166
 z75:=Tryz.sizeOf166
 v75:=Tryz.zeroValue166
 t76:=Tryz.underlying167
 a76:=Tryz.isAgg167
 z76:=Tryz.sizeOf167
 v76:=Tryz.zeroValue167
 t109:=Tryz.underlying232
 a109:=Tryz.isAgg232
 z109:=Tryz.sizeOf232
 v109:=Tryz.zeroValue232
 t127:=Tryz.underlying170
 a127:=Tryz.isAgg170
 z127:=Tryz.sizeOf170
 v127:=Tryz.zeroValue170
 t146:=Tryz.underlying262
 a146:=Tryz.isAgg262
 z146:=Tryz.sizeOf262
 v146:=Tryz.zeroValue262
 t148:=Tryz.underlying264
 a148:=Tryz.isAgg264
 z148:=Tryz.sizeOf264
 v148:=Tryz.zeroValue264
 t164:=Tryz.underlying250
 a164:=Tryz.isAgg250
 z164:=Tryz.sizeOf250
 v164:=Tryz.zeroValue250
def Tryz.lays125_ren:Go.Shelf.Ren:=⟨fun|125=>156|128=>187|129=>188|n=>n,fun|46=>200|3=>3|51=>258|53=>245|4=>4|5=>5|9=>9|n=>n,fun|n=>n⟩
theorem Tryz.lays125:Go.Proofs.Lays.n125 Tryz.prog Tryz.lays125_ren where
 mixed:=by kernel_rfl
 f125:=Tryz.func156.trans (congrArg some JJ)
 f128:=Tryz.func187.trans (congrArg some JJ)
 f129:=Tryz.func188.trans (congrArg some JJ)
 t3:=Tryz.underlying3
 a3:=Tryz.isAgg3
 z3:=Tryz.sizeOf3
 v3:=Tryz.zeroValue3
 t4:=Tryz.underlying4
 a4:=Tryz.isAgg4
 z4:=Tryz.sizeOf4
 v4:=Tryz.zeroValue4
 t5:=Tryz.underlying5
 a5:=Tryz.isAgg5
 z5:=Tryz.sizeOf5
 v5:=Tryz.zeroValue5
 t9:=Tryz.underlying9
 a9:=Tryz.isAgg9
 z9:=Tryz.sizeOf9
 v9:=Tryz.zeroValue9
 t46:=Tryz.underlying200
 a46:=Tryz.isAgg200
 z46:=Tryz.sizeOf200
 v46:=Tryz.zeroValue200
 t51:=Tryz.underlying258
 a51:=Tryz.isAgg258
 z51:=Tryz.sizeOf258
 v51:=Tryz.zeroValue258
 t53:=Tryz.underlying245
 a53:=Tryz.isAgg245
 z53:=Tryz.sizeOf245
 v53:=Tryz.zeroValue245
def Tryz.lays145_ren:Go.Shelf.Ren:=⟨fun|145=>150|220=>183|219=>207|217=>214|225=>215|224=>216|267=>217|266=>221|314=>222|n=>n,fun|9=>9|4=>4|59=>218|3=>3|5=>5|46=>200|146=>262|51=>258|n=>n,fun|1=>2|n=>n⟩
theorem Tryz.lays145:Go.Proofs.LaysM.n145 Tryz.prog Tryz.lays145_ren where
 mixed:=by kernel_rfl
 f145:=Tryz.func150.trans (congrArg some JJ)
 f217:=Tryz.func214.trans (congrArg some JJ)
 f219:=Tryz.func207.trans (congrArg some JJ)
 f220:=Tryz.func183.trans (congrArg some JJ)
 f224:=Tryz.func216.trans (congrArg some JJ)
 f225:=Tryz.func215.trans (congrArg some JJ)
 f266:=Tryz.func221.trans (congrArg some JJ)
 f267:=Tryz.func217.trans (congrArg some JJ)
 f314:=Tryz.func222.trans (congrArg some JJ)
 t3:=Tryz.underlying3
 a3:=Tryz.isAgg3
 z3:=Tryz.sizeOf3
 v3:=Tryz.zeroValue3
 t4:=Tryz.underlying4
 a4:=Tryz.isAgg4
 z4:=Tryz.sizeOf4
 v4:=Tryz.zeroValue4
 t5:=Tryz.underlying5
 a5:=Tryz.isAgg5
 z5:=Tryz.sizeOf5
 v5:=Tryz.zeroValue5
 t9:=Tryz.underlying9
 a9:=Tryz.isAgg9
 z9:=Tryz.sizeOf9
 v9:=Tryz.zeroValue9
 t46:=Tryz.underlying200
 a46:=Tryz.isAgg200
 z46:=Tryz.sizeOf200
 v46:=Tryz.zeroValue200
 t51:=Tryz.underlying258
 a51:=Tryz.isAgg258
 z51:=Tryz.sizeOf258
 v51:=Tryz.zeroValue258
 t59:=Tryz.underlying218
 a59:=Tryz.isAgg218
 z59:=Tryz.sizeOf218
 v59:=Tryz.zeroValue218
 t146:=Tryz.underlying262
 a146:=Tryz.isAgg262
 z146:=Tryz.sizeOf262
 v146:=Tryz.zeroValue262
 g1:=by kernel_rfl
 i3:=by kernel_rfl
 i4:=by kernel_rfl
 i5:=by kernel_rfl
 i9:=by kernel_rfl
 i46:=by kernel_rfl
 i51:=by kernel_rfl
 i59:=by kernel_rfl
 i146:=by kernel_rfl
 m1:=by kernel_rfl
 s1_3:=fun w h=>Go.Proofs.cell_of_shapedOpen_int (zero:=#[.int .i64 0]) (t:=3) h (of_decide_eq_true JJ) JJ rfl JJ JJ Tryz.underlying3
def Tryz.lays146_ren:Go.Shelf.Ren:=⟨fun|146=>107|221=>148|268=>180|138=>181|143=>182|195=>205|197=>199|218=>206|219=>207|260=>210|217=>214|225=>215|224=>216|267=>217|266=>221|314=>222|n=>n,fun|9=>9|31=>92|3=>3|4=>4|0=>0|105=>268|21=>21|5=>5|46=>200|119=>276|139=>279|138=>278|146=>262|51=>258|n=>n,fun|1=>2|3=>3|4=>4|n=>n⟩
theorem Tryz.lays146:Go.Proofs.LaysM.n146 Tryz.prog Tryz.lays146_ren where
 mixed:=by kernel_rfl
 f138:=Tryz.func181.trans (congrArg some JJ)
 f143:=Tryz.func182.trans (congrArg some JJ)
 f146:=Tryz.func107.trans (congrArg some JJ)
 f195:=Tryz.func205.trans (congrArg some JJ)
 f197:=Tryz.func199.trans (congrArg some JJ)
 f217:=Tryz.func214.trans (congrArg some JJ)
 f218:=Tryz.func206.trans (congrArg some JJ)
 f219:=Tryz.func207.trans (congrArg some JJ)
 f221:=Tryz.func148.trans (congrArg some JJ)
 f224:=Tryz.func216.trans (congrArg some JJ)
 f225:=Tryz.func215.trans (congrArg some JJ)
 f260:=Tryz.func210.trans (congrArg some JJ)
 f266:=Tryz.func221.trans (congrArg some JJ)
 f267:=Tryz.func217.trans (congrArg some JJ)
 f268:=Tryz.func180.trans (congrArg some JJ)
 f314:=Tryz.func222.trans (congrArg some JJ)
 t0:=Tryz.underlying0
 a0:=Tryz.isAgg0
 z0:=Tryz.sizeOf0
 v0:=Tryz.zeroValue0
 t3:=Tryz.underlying3
 a3:=Tryz.isAgg3
 z3:=Tryz.sizeOf3
 v3:=Tryz.zeroValue3
 t4:=Tryz.underlying4
 a4:=Tryz.isAgg4
 z4:=Tryz.sizeOf4
 v4:=Tryz.zeroValue4
 t5:=Tryz.underlying5
 a5:=Tryz.isAgg5
 z5:=Tryz.sizeOf5
 v5:=Tryz.zeroValue5
 t9:=Tryz.underlying9
 a9:=Tryz.isAgg9
 z9:=Tryz.sizeOf9
 v9:=Tryz.zeroValue9
 t21:=Tryz.underlying21
 a21:=Tryz.isAgg21
 z21:=Tryz.sizeOf21
 v21:=Tryz.zeroValue21
 t31:=Tryz.underlying92
 a31:=Tryz.isAgg92
 z31:=Tryz.sizeOf92
 v31:=Tryz.zeroValue92
 t46:=Tryz.underlying200
 a46:=Tryz.isAgg200
 z46:=Tryz.sizeOf200
 v46:=Tryz.zeroValue200
 t51:=Tryz.underlying258
 a51:=Tryz.isAgg258
 z51:=Tryz.sizeOf258
 v51:=Tryz.zeroValue258
 t105:=Tryz.underlying268
 a105:=Tryz.isAgg268
 z105:=Tryz.sizeOf268
 v105:=Tryz.zeroValue268
 t119:=Tryz.underlying276
 a119:=Tryz.isAgg276
 z119:=Tryz.sizeOf276
 t138:=Tryz.underlying278
 a138:=Tryz.isAgg278
 z138:=Tryz.sizeOf278
 v138:=Tryz.zeroValue278
 t139:=Tryz.underlying279
 a139:=Tryz.isAgg279
 z139:=Tryz.sizeOf279
 v139:=Tryz.zeroValue279
 t146:=Tryz.underlying262
 a146:=Tryz.isAgg262
 z146:=Tryz.sizeOf262
 v146:=Tryz.zeroValue262
 g1:=by kernel_rfl
 g3:=by kernel_rfl
 g4:=by kernel_rfl
 i0:=by kernel_rfl
 i3:=by kernel_rfl
 i4:=by kernel_rfl
 i5:=by kernel_rfl
 i9:=by kernel_rfl
 i21:=by kernel_rfl
 i31:=by kernel_rfl
 i46:=by kernel_rfl
 i51:=by kernel_rfl
 i105:=by kernel_rfl
 i138:=by kernel_rfl
 i139:=by kernel_rfl
 i146:=by kernel_rfl
 m1:=by kernel_rfl
 s1_3:=fun w h=>Go.Proofs.cell_of_shapedOpen_int (zero:=#[.int .i64 0]) (t:=3) h (of_decide_eq_true JJ) JJ rfl JJ JJ Tryz.underlying3
 m3:=by kernel_rfl
 m4:=by kernel_rfl
def Tryz.lays156_ren:Go.Shelf.Ren:=⟨fun|156=>84|165=>133|166=>103|169=>50|240=>146|241=>167|276=>179|277=>197|n=>n,fun|31=>92|9=>9|3=>3|4=>4|0=>0|20=>20|72=>88|76=>167|70=>86|37=>53|75=>166|127=>170|164=>250|5=>5|80=>97|n=>n,fun|n=>n⟩
theorem Tryz.lays156:Go.Proofs.Lays.n156 Tryz.prog Tryz.lays156_ren where
 mixed:=by kernel_rfl
 f156:=Tryz.func84.trans (congrArg some JJ)
 f165:=Tryz.func133.trans (congrArg some JJ)
 f166:=Tryz.func103.trans (congrArg some JJ)
 f169:=Tryz.func50.trans (congrArg some JJ)
 f240:=Tryz.func146.trans (congrArg some JJ)
 f241:=Tryz.func167.trans (congrArg some JJ)
 f276:=Tryz.func179.trans (congrArg some JJ)
 f277:=Tryz.func197.trans (congrArg some JJ)
 t0:=Tryz.underlying0
 a0:=Tryz.isAgg0
 z0:=Tryz.sizeOf0
 v0:=Tryz.zeroValue0
 t3:=Tryz.underlying3
 a3:=Tryz.isAgg3
 z3:=Tryz.sizeOf3
 v3:=Tryz.zeroValue3
 t4:=Tryz.underlying4
 a4:=Tryz.isAgg4
 z4:=Tryz.sizeOf4
 v4:=Tryz.zeroValue4
 t9:=Tryz.underlying9
 a9:=Tryz.isAgg9
 z9:=Tryz.sizeOf9
 v9:=Tryz.zeroValue9
 t20:=Tryz.underlying20
 a20:=Tryz.isAgg20
 z20:=Tryz.sizeOf20
 v20:=Tryz.zeroValue20
 t31:=Tryz.underlying92
 a31:=Tryz.isAgg92
 z31:=Tryz.sizeOf92
 v31:=Tryz.zeroValue92
 t37:=Tryz.underlying53
 a37:=Tryz.isAgg53
 z37:=Tryz.sizeOf53
 v37:=Tryz.zeroValue53
 t70:=Tryz.underlying86
 a70:=Tryz.isAgg86
 z70:=Tryz.sizeOf86
 v70:=Tryz.zeroValue86
 t72:=Tryz.underlying88
 a72:=Tryz.isAgg88
 z72:=Tryz.sizeOf88
 v72:=Tryz.zeroValue88
 t75:=Tryz.underlying166
 a75:=Tryz.isAgg166
 z75:=Tryz.sizeOf166
 v75:=Tryz.zeroValue166
 t76:=Tryz.underlying167
 a76:=Tryz.isAgg167
 z76:=Tryz.sizeOf167
 v76:=Tryz.zeroValue167
 t127:=Tryz.underlying170
 a127:=Tryz.isAgg170
 z127:=Tryz.sizeOf170
 v127:=Tryz.zeroValue170
 t164:=Tryz.underlying250
 a164:=Tryz.isAgg250
 z164:=Tryz.sizeOf250
 v164:=Tryz.zeroValue250
def Tryz.lays171_ren:Go.Shelf.Ren:=⟨fun|171=>46|243=>102|246=>145|283=>175|284=>176|285=>177|286=>178|129=>188|317=>201|318=>202|319=>203|320=>204|337=>212|338=>213|n=>n,fun|3=>3|9=>9|2=>2|4=>4|171=>244|0=>0|53=>245|37=>53|5=>5|173=>248|212=>272|51=>258|20=>20|213=>273|46=>200|232=>281|233=>282|n=>n,fun|17=>1|18=>5|19=>6|n=>n⟩
theorem Tryz.lays171:Go.Proofs.LaysM.n171 Tryz.prog Tryz.lays171_ren where
 mixed:=by kernel_rfl
 f129:=Tryz.func188.trans (congrArg some JJ)
 f171:=Tryz.func46.trans (congrArg some JJ)
 f243:=Tryz.func102.trans (congrArg some JJ)
 f246:=Tryz.func145.trans (congrArg some JJ)
 f283:=Tryz.func175.trans (congrArg some JJ)
 f284:=Tryz.func176.trans (congrArg some JJ)
 f285:=Tryz.func177.trans (congrArg some JJ)
 f286:=Tryz.func178.trans (congrArg some JJ)
 f317:=Tryz.func201.trans (congrArg some JJ)
 f318:=Tryz.func202.trans (congrArg some JJ)
 f319:=Tryz.func203.trans (congrArg some JJ)
 f320:=Tryz.func204.trans (congrArg some JJ)
 f337:=Tryz.func212.trans (congrArg some JJ)
 f338:=Tryz.func213.trans (congrArg some JJ)
 t0:=Tryz.underlying0
 a0:=Tryz.isAgg0
 z0:=Tryz.sizeOf0
 v0:=Tryz.zeroValue0
 t2:=Tryz.underlying2
 a2:=Tryz.isAgg2
 z2:=Tryz.sizeOf2
 v2:=Tryz.zeroValue2
 t3:=Tryz.underlying3
 a3:=Tryz.isAgg3
 z3:=Tryz.sizeOf3
 v3:=Tryz.zeroValue3
 t4:=Tryz.underlying4
 a4:=Tryz.isAgg4
 z4:=Tryz.sizeOf4
 v4:=Tryz.zeroValue4
 t5:=Tryz.underlying5
 a5:=Tryz.isAgg5
 z5:=Tryz.sizeOf5
 v5:=Tryz.zeroValue5
 t9:=Tryz.underlying9
 a9:=Tryz.isAgg9
 z9:=Tryz.sizeOf9
 v9:=Tryz.zeroValue9
 t20:=Tryz.underlying20
 a20:=Tryz.isAgg20
 z20:=Tryz.sizeOf20
 v20:=Tryz.zeroValue20
 t37:=Tryz.underlying53
 a37:=Tryz.isAgg53
 z37:=Tryz.sizeOf53
 v37:=Tryz.zeroValue53
 t46:=Tryz.underlying200
 a46:=Tryz.isAgg200
 z46:=Tryz.sizeOf200
 v46:=Tryz.zeroValue200
 t51:=Tryz.underlying258
 a51:=Tryz.isAgg258
 z51:=Tryz.sizeOf258
 v51:=Tryz.zeroValue258
 t53:=Tryz.underlying245
 a53:=Tryz.isAgg245
 z53:=Tryz.sizeOf245
 v53:=Tryz.zeroValue245
 t171:=Tryz.underlying244
 a171:=Tryz.isAgg244
 z171:=Tryz.sizeOf244
 v171:=Tryz.zeroValue244
 t173:=Tryz.underlying248
 a173:=Tryz.isAgg248
 z173:=Tryz.sizeOf248
 v173:=Tryz.zeroValue248
 t212:=Tryz.underlying272
 a212:=Tryz.isAgg272
 z212:=Tryz.sizeOf272
 v212:=Tryz.zeroValue272
 t213:=Tryz.underlying273
 a213:=Tryz.isAgg273
 z213:=Tryz.sizeOf273
 t232:=Tryz.underlying281
 a232:=Tryz.isAgg281
 z232:=Tryz.sizeOf281
 v232:=Tryz.zeroValue281
 t233:=Tryz.underlying282
 a233:=Tryz.isAgg282
 z233:=Tryz.sizeOf282
 v233:=Tryz.zeroValue282
 g17:=by kernel_rfl
 g18:=by kernel_rfl
 g19:=by kernel_rfl
 i0:=by kernel_rfl
 i2:=by kernel_rfl
 i3:=by kernel_rfl
 i4:=by kernel_rfl
 i5:=by kernel_rfl
 i9:=by kernel_rfl
 i20:=by kernel_rfl
 i37:=by kernel_rfl
 i46:=by kernel_rfl
 i51:=by kernel_rfl
 i53:=by kernel_rfl
 i171:=by kernel_rfl
 i173:=by kernel_rfl
 i212:=by kernel_rfl
 i232:=by kernel_rfl
 i233:=by kernel_rfl
 m17:=by kernel_rfl
 m18:=by kernel_rfl
 m19:=by kernel_rfl
def Tryz.lays290_ren:Go.Shelf.Ren:=⟨fun|290=>191|324=>209|n=>n,fun|37=>53|3=>3|0=>0|4=>4|20=>20|75=>166|5=>5|80=>97|9=>9|n=>n,fun|14=>0|n=>n⟩
theorem Tryz.lays290:Go.Proofs.LaysM.n290 Tryz.prog Tryz.lays290_ren where
 mixed:=by kernel_rfl
 f290:=Tryz.func191.trans (congrArg some JJ)
 f324:=Tryz.func209.trans (congrArg some JJ)
 t0:=Tryz.underlying0
 a0:=Tryz.isAgg0
 z0:=Tryz.sizeOf0
 v0:=Tryz.zeroValue0
 t3:=Tryz.underlying3
 a3:=Tryz.isAgg3
 z3:=Tryz.sizeOf3
 v3:=Tryz.zeroValue3
 t4:=Tryz.underlying4
 a4:=Tryz.isAgg4
 z4:=Tryz.sizeOf4
 v4:=Tryz.zeroValue4
 t20:=Tryz.underlying20
 a20:=Tryz.isAgg20
 z20:=Tryz.sizeOf20
 v20:=Tryz.zeroValue20
 t37:=Tryz.underlying53
 a37:=Tryz.isAgg53
 z37:=Tryz.sizeOf53
 v37:=Tryz.zeroValue53
 t75:=Tryz.underlying166
 a75:=Tryz.isAgg166
 z75:=Tryz.sizeOf166
 v75:=Tryz.zeroValue166
 g14:=by kernel_rfl
 t5:=Tryz.underlying5
 a5:=Tryz.isAgg5
 z5:=Tryz.sizeOf5
 v5:=Tryz.zeroValue5
 t9:=Tryz.underlying9
 a9:=Tryz.isAgg9
 z9:=Tryz.sizeOf9
 v9:=Tryz.zeroValue9
 t80:=Tryz.underlying97
 a80:=Tryz.isAgg97
 z80:=Tryz.sizeOf97
 v80:=Tryz.zeroValue97
 i0:=by kernel_rfl
 i3:=by kernel_rfl
 i4:=by kernel_rfl
 i5:=by kernel_rfl
 i9:=by kernel_rfl
 i20:=by kernel_rfl
 i37:=by kernel_rfl
 i75:=by kernel_rfl
 i80:=by kernel_rfl
 m14:=by kernel_rfl
end Go.Proofs
namespace Go.Proofs
open Go.Shelf
theorem Tryz.extra105:Builder.Extra Tryz.prog Tryz.lays105_ren where
 sizeBuilder:=by kernel_rfl
 liesBuilder:=by kernel_rfl
 t5:=Tryz.underlying5
 a5:=Tryz.isAgg5
 z5:=Tryz.sizeOf5
 v5:=Tryz.zeroValue5
 infoByte:=by kernel_rfl
 cellsByte:=by kernel_rfl
 sizeByte:=by kernel_rfl
 neB5:=by decide
theorem Tryz.extra156:Builder.Extra Tryz.prog Tryz.lays156_ren where
 sizeBuilder:=by kernel_rfl
 liesBuilder:=by kernel_rfl
 t5:=Tryz.underlying5
 a5:=Tryz.isAgg5
 z5:=Tryz.sizeOf5
 v5:=Tryz.zeroValue5
 infoByte:=by kernel_rfl
 cellsByte:=by kernel_rfl
 sizeByte:=by kernel_rfl
 neB5:=by decide
end Go.Proofs
namespace Go.Mw
open Go.Proofs Go.RowKit
section one
variable {S:Jc} {ι:Nat→Value} {H:Nat→Option AO} {w:World}
theorem JKy {a:Value}{vs:List Value}(h:JS (Jk S ι H w) [.raw a] vs):vs=[a]:=by
 match vs,h with
 |[v],h=>rw [Qm (Jl h.1)]
theorem JE4 {a b:Value}{vs:List Value}(h:JS (Jk S ι H w) [.raw a,.raw b] vs):vs=[a,b]:=by
 match vs,h with
 |[v,u],h=>rw [Qm (Jl h.1),Qm (Jl h.2.1)]
end one
theorem JCy {v:Value}(h:v.oneCell'=true):∀S ι H w,Jk S ι H w (.raw v) v:=fun S ι H w=>⟨_,rfl,RepD.raw v h⟩
theorem JLJ (s p:List UInt8)(hs:s.length≤9223372036854775807):Jb Tryz.prog 106 [.str s,.str p] (.bool (Lib.hasSuffix s p)) []:=
 JDK fun S ι w vs hG hin h=>by
  rw [JE4 h]
  have:=Any.strings_HasSuffix Tryz.lays100 (bs s) (bs p) w (by rw [Z2];exact hs)
  rw [JAD,JAD] at this
  exact this.mono fun e w' ⟨he,hw⟩=>⟨_,he,JCy rfl,hw▸Below.refl _ _⟩
theorem JP6 (s p:List UInt8)(hs:s.length≤9223372036854775807):Jb Tryz.prog 108 [.str s,.str p] (.str (Lib.trimSuffix s p)) []:=
 JDK fun S ι w vs hG hin h=>by
  rw [JE4 h]
  have:=Any.strings_TrimSuffix Tryz.lays102 (bs s) (bs p) w (by rw [Z2];exact hs)
  rw [JAD,JAD] at this
  exact this.mono fun e w' ⟨he,hw⟩=>⟨_,he,JCy rfl,hw▸Below.refl _ _⟩
theorem JPu (n:Int)(h0:-9223372036854775808≤n)(h1:n≤9223372036854775807)(g:Nat)(hg:Tryz.prog.globalNamed "internal/strconv.uint64pow10" = some g):Jb Tryz.prog 46 [.int n] (.str (Lib.itoa n)) []:=
 JDK fun S ι w vs hG hin h=>by
  rw [JKy h]
  have:=Any.strconv_Itoa Tryz.lays171 n h0 h1 w (hG.tab _ _ _ (by simp [JFf]) g hg).2
  exact this.mono fun e w' ⟨he,k,os,hw⟩=>⟨_,he,JCy rfl,by subst hw;exact Go.Lib.below_grow _ _ (Nat.le_refl _) _ _⟩
theorem JP2 (s:List UInt8)(c:Nat)(hc:c≤9223372036854775807)(hl:s.length*c≤140737488355328):Jb Tryz.prog 131 [.str s,.int c] (.str (Lib.repeatL s c)) []:=
 JDK fun S ι w vs hG hin h=>by
  rw [JE4 h]
  have:=Any.strings_Repeat Tryz.lays105 Tryz.extra105 (bs s) c w hc (by rw [Z2];exact hl)
  rw [JAD] at this
  exact this.mono fun e w' ⟨he,hw⟩=>⟨_,he,JCy rfl,hw⟩
theorem JLK (xs:List (List UInt8))(sep:List UInt8)(hN:xs.length≤140737488355328)(hl:(Lib.join xs sep).length≤140737488355328) :
  Jb Tryz.prog 84 [.leaf (.d (.sl 1 (xs.map fun x=>[.raw (.string (bs x))]))),.str sep] (.str (Lib.join xs sep)) []:=
 JDK fun S ι w vs hG hin h=>by
  match vs,h with
  |[v,u],h=>
  have hu:=Qm (Jl h.2.1)
  have hv:RepD S w _ v:=Jl h.1
  subst hu
  have em:(xs.map bs).map (·.data.toList)=xs:=by
   rw [List.map_map,show ((fun x:ByteArray=>x.data.toList) ∘ bs)=id from funext fun x=>JAD x,List.map_id]
  generalize hes:(xs.map fun x=>[D.raw (.string (bs x))])=es at hv
  cases hv with
  |nil _ p c=>
   have:xs=[]:=by simpa using hes
   subst this
   have:=Any.strings_Join_none Tryz.lays156 Tryz.extra156 p c (bs sep) w
   exact this.mono fun e w' ⟨he,hw⟩=>⟨_,he,JCy rfl,hw▸Below.refl _ _⟩
  |sl _ _ b off c vals hc hk hS hw hr=>
   have hlen:es.length=(xs.map bs).length:=by rw [←hes];simp
   have hat:∀(j:Nat) (x:ByteArray),(xs.map bs)[j]? = some x→es[j]? = some [.raw (.string x)]:=fun j x hx=>by
    rw [←hes,List.getElem?_map]
    rw [List.getElem?_map] at hx
    cases hj:xs[j]? with
    |none=>simp [hj] at hx
    |some y=>simp only [hj,Option.map_some,Option.some.injEq] at hx ⊢;rw [hx]
   by_cases h0:xs=[]
   ·subst h0
    simp at hes;subst hes
    have:=Any.strings_Join_none Tryz.lays156 Tryz.extra156 (some ⟨b,off,none⟩) c (bs sep) w
    exact this.mono fun e w' ⟨he,hw⟩=>⟨_,he,JCy rfl,hw▸Below.refl _ _⟩
   have hb:b<w.heap.size:=by
    cases xs with
    |nil=>exact absurd rfl h0
    |cons y ys=>exact hin b _ (hS 0 _ 0 _ (hat 0 (bs y) rfl) rfl)
   have:=Any.strings_Join Tryz.lays156 Tryz.extra156 b off c (xs.map bs) (bs sep) w (fun j x hx=>by
    have h1:=hw j _ 0 _ (hat j x hx) rfl
    have h2:=Qm (hr j _ 0 _ (hat j x hx) rfl)
    rw [Nat.mul_one,Nat.add_zero] at h1
    rw [h1,h2]) hb (by simpa using hN) (by rw [←hlen];exact hc) (by rw [em,JAD];exact hl)
   rw [em,JAD,←hlen] at this
   exact this.mono fun e w' ⟨he,hw⟩=>⟨_,he,JCy rfl,hw⟩
theorem JPv (n:Int)(h0:0≤n)(h1:n≤18446744073709551615):Jb Tryz.prog 156 [.raw (.int .u64 n)] (.int (Lib.bitLen n.toNat)) []:=
 JDK fun S ι w vs hG hin h=>by
  rw [JKy h]
  exact (Any.bits_Len Tryz.lays125 n w h0 h1).mono fun e w' ⟨he,hw⟩=>⟨_,he,JCy rfl,hw▸Below.refl _ _⟩
theorem JLH (s p:List UInt8)(hs:s.length<4294967281)(g:Nat)(hg:Tryz.prog.globalNamed "internal/bytealg.MaxLen" = some g)(hr:Tryz.lays145_ren.g 1=g) :
  Jb Tryz.prog 150 [.str s,.str p] (.tup [(false,[.d (.raw (.string (bs (Lib.cut s p).1)))]),(false,[.d (.raw (.string (bs (Lib.cut s p).2.1)))]),(false,[.d (.raw (.bool (Lib.cut s p).2.2))])]) []:=
 JDK fun S ι w vs hG hin h=>by
  rw [JE4 h]
  obtain ⟨m,hm⟩:=(hG.max g hg).2
  have:=Any.strings_Cut { Tryz.lays145 with } (bs s) (bs p) m w (by rw [Z2];exact hs) (by rw [hr];exact hm)
  rw [JAD,JAD] at this
  exact this.mono fun e w' ⟨he,n,hw⟩=>⟨_,he,fun S ι H w=>⟨_,rfl,⟨_,rfl,RepD.raw _ rfl⟩,⟨_,rfl,RepD.raw _ rfl⟩,⟨_,rfl,RepD.raw _ rfl⟩,trivial⟩,hw▸below_drewN (Below.refl _ _) n⟩
def JCw (s p:List UInt8):List (List D):=(Lib.splitB (bs p) 0 (Lib.countB (bs s) (bs p)) (bs s)).map fun x=>[.raw (.string x)]
theorem JP4 (s p:List UInt8)(hp:1≤p.length)(hs:s.length<4294967281)(g:Nat)(hg:Tryz.prog.globalNamed "internal/bytealg.MaxLen" = some g)(hr:Tryz.lays146_ren.g 1=g) :
  Jb Tryz.prog 107 [.str s,.str p] (.leaf (.own 900 0 (JCw s p).length (JCw s p).length)) [(900,.arr 9 1 (JCw s p))]:=
 JRB rfl (fun x hx=>by obtain ⟨y,_,rfl⟩:=List.mem_map.1 hx;rfl) (by omega) fun S ι w vs hG hin h=>by
  rw [JE4 h]
  obtain ⟨m,hm⟩:=(hG.max g hg).2
  have hlen:=Lib.splitB_all (bs p) (by rw [Z2];exact hp) 0 _ (bs s) rfl
  have hle:=Lib.countB_le (bs p) (by rw [Z2];exact hp) (bs s).size (bs s) (Nat.le_refl _)
  have:=Any.strings_Split { Tryz.lays146 with } Tryz.lays146.i9 (bs s) (bs p) m w (by rw [Z2];exact hs) (by rw [hr];exact hm) (by rw [Z2];exact hp)
  refine this.mono fun e w' ⟨he,hw⟩=>⟨_,(Lib.splitB (bs p) 0 (Lib.countB (bs s) (bs p)) (bs s)).map Value.string,he,?_,fun S w=>?_,?_⟩
  ·subst hw
   have hn:(JCw s p).length=Lib.countB (bs s) (bs p)+1:=by unfold JCw;rw [List.length_map];exact hlen
   refine ⟨by rw [List.length_map,hn,hlen,Nat.mul_one],.inr ⟨w.heap.size,Lib.countB (bs s) (bs p)+1,_,by rw [hn],Nat.le_refl _,Go.heap_alloc_new w _,by omega,?_,?_,?_⟩⟩
   ·rw [Z2] at hle
    unfold maxLen
    omega
   ·rw [List.size_toArray,List.length_map,hlen,Nat.mul_one]
   ·rw [hn,Nat.mul_one,List.take_of_length_le]
    rw [List.length_map,hlen];exact Nat.le_refl _
  ·unfold JCw
   generalize Lib.splitB (bs p) 0 (Lib.countB (bs s) (bs p)) (bs s)=l
   induction l with
   |nil=>trivial
   |cons x l ih=>exact ⟨RepD.raw _ rfl,ih⟩
  ·subst hw
   exact ⟨rfl,rfl,rfl,by simp,fun k hk=>Below.heap_alloc w _ k hk⟩
end Go.Mw
namespace Go.Bk
abbrev Bs:=List UInt8
theorem JDi {α:Type}{p:List α→Prop}(nil:p [])(snoc:∀l a,p l→p (l++[a]))(l:List α):p l:=by
 have h:∀r:List α,p r.reverse:=by
  intro r
  induction r with
  |nil=>exact nil
  |cons a r ih=>rw [List.reverse_cons];exact snoc _ _ ih
 have:=h l.reverse
 rwa [List.reverse_reverse] at this
def Jz (n:Nat):Bs:=Lib.decDigits n
theorem JBy {n:Nat}(h:n<10):Jz n=[UInt8.ofNat (48+n)]:=by unfold Jz;rw [Lib.decDigits,dif_pos h]
theorem JC4 {n:Nat}(h:¬n<10):Jz n=Jz (n / 10)++[UInt8.ofNat (48+n%10)]:=by unfold Jz;rw [Lib.decDigits,dif_neg h]
theorem JSC (n:Nat):Lib.itoa (n:Int)=Jz n:=by unfold Lib.itoa Jz;rw [if_neg (by omega),Int.toNat_natCast]
def YU (c:UInt8):Bool:=decide (48≤c.toNat)&&decide (c.toNat≤57)
theorem JDR {c:UInt8}:YU c=true↔48≤c.toNat∧c.toNat≤57:=by simp [YU]
theorem JFl {n:Nat}(h:n<256):(UInt8.ofNat n).toNat=n:=by simp;omega
theorem JEJ {d:Nat}(h:d<10):(UInt8.ofNat (48+d)).toNat=48+d:=JFl (by omega)
theorem JHR {d:Nat}(h:d<10):YU (UInt8.ofNat (48+d))=true:=by rw [JDR,JEJ h];omega
theorem JOm {a b:UInt8}(h:a.toNat=b.toNat):a=b:=UInt8.toNat.inj h
theorem JH1 (n:Nat):(Jz n).all YU=true:=by
 induction n using Nat.strongRecOn with
 |_ n ih=>
  by_cases h:n<10
  ·rw [JBy h,List.all_cons,JHR h];rfl
  ·rw [JC4 h,List.all_append,ih (n / 10) (by omega),List.all_cons,JHR (show n%10<10 by omega)];rfl
theorem JKM (n:Nat):Jz n≠[]:=by
 by_cases h:n<10
 ·rw [JBy h];simp
 ·rw [JC4 h];simp
theorem JOk:Jz 0=[48]:=JBy (by omega)
theorem JVR (n:Nat)(h:1≤n):(Jz n).head?≠some 48:=by
 induction n using Nat.strongRecOn with
 |_ n ih=>
  by_cases h10:n<10
  ·rw [JBy h10]
   simp only [List.head?_cons,ne_eq,Option.some.injEq]
   intro e
   have:=congrArg UInt8.toNat e
   rw [JEJ h10] at this
   simp at this
   omega
  ·rw [JC4 h10]
   have h1:=ih (n / 10) (by omega) (by omega)
   cases hx:Jz (n / 10) with
   |nil=>exact absurd hx (JKM _)
   |cons a l=>rw [hx] at h1;simpa using h1
theorem Zz {n k:Nat}(h:n<10^k)(hk:1≤k):(Jz n).length≤k:=by
 induction k generalizing n with
 |zero=>omega
 |succ k ih=>
  by_cases h10:n<10
  ·rw [JBy h10];simp
  ·rw [JC4 h10,List.length_append,List.length_singleton]
   by_cases hk0:k=0
   ·subst hk0;simp at h;omega
   ·have:=ih (n:=n / 10) (by rw [Nat.pow_succ] at h;omega) (by omega)
    omega
def JW (l:Bs):Nat:=l.foldl (fun n c=>10*n+(c.toNat-48)) 0
theorem JH4 (l:Bs)(c:UInt8):JW (l++[c])=10*JW l+(c.toNat-48):=by simp [JW]
theorem JEm (n:Nat):JW (Jz n)=n:=by
 induction n using Nat.strongRecOn with
 |_ n ih=>
  by_cases h:n<10
  ·rw [JBy h];show 10*0+_=_;rw [JEJ h];omega
  ·rw [JC4 h,JH4,ih (n / 10) (by omega),JEJ (by omega)];omega
theorem JVS (s:Bs)(h0:s≠[])(hd:s.all YU=true)(hz:s=[48]∨s.head?≠some 48):Jz (JW s)=s:=by
 induction s using JDi with
 |nil=>exact absurd rfl h0
 |snoc l c ih=>
  rw [List.all_append] at hd
  simp only [List.all_cons,List.all_nil,Bool.and_true,Bool.and_eq_true] at hd
  obtain ⟨hl,hc⟩:=hd
  have hc:=JDR.1 hc
  rw [JH4]
  by_cases hn:l=[]
  ·subst hn
   show Jz (10*0+_)=[c]
   rw [JBy (by omega)]
   congr 1
   apply JOm
   rw [JFl (by omega)];omega
  ·have hh:l.head?≠some 48:=by
    cases l with
    |nil=>exact absurd rfl hn
    |cons a l=>
     rcases hz with hz|hz
     ·simp at hz
     ·simpa using hz
   have e:=ih hn hl (.inr hh)
   have hv:1≤JW l:=by
    rcases Nat.eq_zero_or_pos (JW l) with h|h
    ·rw [h,JOk] at e;rw [←e] at hh;simp at hh
    ·exact h
   rw [JC4 (by omega),show (10*JW l+(c.toNat-48)) / 10=JW l by omega,e]
   congr 2
   apply JOm
   rw [JFl (by omega)];omega
def pad (c:UInt8)(w:Nat)(x:Bs):Bs:=List.replicate (w-x.length) c++x
theorem JFr (c:UInt8){w:Nat}{x:Bs}(h:x.length≤w):(pad c w x).length=w:=by simp [pad];omega
def YD (s:Bs):Bool:=decide (s≠[])&&decide (s.length≤12)&&(decide (s=[48]) || decide (s.head?≠some 48))&&s.all YU
theorem JFZ {s:Bs}:YD s=true↔s≠[]∧s.length≤12∧(s=[48]∨s.head?≠some 48)∧s.all YU=true:=by
 unfold YD
 simp only [Bool.and_eq_true,Bool.or_eq_true,decide_eq_true_eq]
 constructor
 ·rintro ⟨⟨⟨a,b⟩,c⟩,d⟩;exact ⟨a,b,c,d⟩
 ·rintro ⟨a,b,c,d⟩;exact ⟨⟨⟨a,b⟩,c⟩,d⟩
theorem JEN {n:Nat}(h:n<10^12):YD (Jz n)=true:=by
 refine JFZ.2 ⟨JKM n,Zz h (by omega),?_,JH1 n⟩
 by_cases h0:n=0
 ·subst h0;exact .inl JOk
 ·exact .inr (JVR n (by omega))
theorem JEO {s:Bs}(h:YD s=true):Jz (JW s)=s:=by
 obtain ⟨a,_,c,d⟩:=JFZ.1 h
 exact JVS s a d c
def vst (n:Nat)(c:UInt8):Nat:=if YU c then min (2^40) (10*n+(c.toNat-48)) else n
def YM (l:Bs):Nat:=l.foldl vst 0
theorem JGH (l:Bs)(c:UInt8):YM (l++[c])=vst (YM l) c:=by simp [YM]
theorem JVe {n:Nat}(c:UInt8)(h:n≤2^40):vst n c≤2^40:=by unfold vst;split<;>omega
theorem JOs (l:Bs):YM l≤2^40:=by
 induction l using JDi with
 |nil=>simp [YM]
 |snoc l c ih=>rw [JGH];exact JVe c ih
theorem JGI {n:Nat}(h:n≤2^40):YM (Jz n)=n:=by
 induction n using Nat.strongRecOn with
 |_ n ih=>
  by_cases h10:n<10
  ·rw [JBy h10]
   show vst 0 _=n
   unfold vst
   rw [if_pos (JHR h10),JEJ h10];omega
  ·rw [JC4 h10,JGH,ih (n / 10) (by omega) (by omega)]
   unfold vst
   rw [if_pos (JHR (by omega)),JEJ (by omega)];omega
def dig (c:UInt8):Nat:=if YU c then c.toNat-48 else 0
def ZI:Bs→Nat
 |[]=>0
 |c::l=>dig c+ZI l
theorem JLy (a b:Bs):ZI (a++b)=ZI a+ZI b:=by
 induction a with
 |nil=>simp [ZI]
 |cons c a ih=>simp [ZI,ih];omega
theorem JRR (c:UInt8):dig c≤9:=by
 unfold dig
 split
 ·next h=>have:=JDR.1 h;omega
 ·exact Nat.zero_le _
theorem JRU (l:Bs):ZI l≤9*l.length:=by
 induction l with
 |nil=>simp [ZI]
 |cons c l ih=>have:=JRR c;simp [ZI];omega
def chk (l:Bs):Bs:=Jz (ZI l%10)
theorem JQ4 (l:Bs):(chk l).length=1:=by unfold chk;rw [JBy (by omega)];rfl
def Jt (c:UInt8):Bs→List Bs
 |[]=>[[]]
 |x::l=>if x=c then []::Jt c l else match Jt c l with
  |[]=>[[x]]
  |a::r=>(x::a)::r
theorem JCg (c:UInt8)(l:Bs):Jt c l≠[]:=by
 induction l with
 |nil=>simp [Jt]
 |cons x l ih=>
  unfold Jt
  split
  ·simp
  ·split<;>simp
theorem cutB_hit (c:UInt8)(l:Bs):Jt c (c::l)=[]::Jt c l:=by rw [Jt,if_pos rfl]
theorem JCA (c:UInt8):∀(a l:Bs),c ∉ a→Jt c (a++c::l)=a::Jt c l
 |[],l,_=>cutB_hit c l
 |x::a,l,h=>by
  have hx:x≠c:=fun e=>h (by simp [e])
  rw [List.cons_append,Jt,if_neg hx,JCA c a l (fun e=>h (by simp [e]))]
theorem JBm (c:UInt8):∀(a:Bs),c ∉ a→Jt c a=[a]
 |[],_=>rfl
 |x::a,h=>by
  have hx:x≠c:=fun e=>h (by simp [e])
  rw [Jt,if_neg hx,JBm c a (fun e=>h (by simp [e]))]
def ends (c:UInt8)(ls:List Bs):Bs:=(ls.map (· ++ [c])).flatten
theorem JL0 (c:UInt8):ends c []=[]:=rfl
theorem JAm (c:UInt8)(l:Bs)(ls:List Bs):ends c (l::ls)=l++c::ends c ls:=by simp [ends]
theorem JEL (c:UInt8)(a b:List Bs):ends c (a++b)=ends c a++ends c b:=by simp [ends]
theorem JIm (c:UInt8):∀(ls:List Bs),(∀l∈ls,c ∉ l)→Jt c (ends c ls)=ls++[[]]
 |[],_=>rfl
 |l::ls,h=>by
  rw [JAm,JCA c l _ (h l (by simp)),JIm c ls (fun x hx=>h x (by simp [hx]))];rfl
theorem JRH (c:UInt8)(t:Bs):Jt c (t++[c])=Jt c t++[[]]:=by
 induction t with
 |nil=>rw [List.nil_append,cutB_hit];rfl
 |cons x t ih=>
  rw [List.cons_append,Jt,Jt]
  split
  ·rw [ih];rfl
  ·rw [ih]
   cases hc:Jt c t with
   |nil=>exact absurd hc (JCg c t)
   |cons a r=>rfl
theorem JG0 (c:UInt8)(t:Bs):ends c (Jt c t)=t++[c]:=by
 induction t with
 |nil=>rfl
 |cons x t ih=>
  rw [Jt]
  split
  ·next h=>subst h;rw [JAm,ih];rfl
  ·cases hc:Jt c t with
   |nil=>exact absurd hc (JCg c t)
   |cons a r=>
    rw [hc,JAm] at ih
    show ends c ((x::a)::r)=_
    rw [JAm,List.cons_append,ih];rfl
end Go.Bk
namespace Go.Bk
def Ys (n lo hi:Int):Bool:=decide (lo≤n)&&decide (n≤hi)
theorem ZC {n lo hi:Int}:Ys n lo hi=true↔lo≤n∧n≤hi:=by simp [Ys]
def Yr:List Int→Bool
 |a::b::l=>decide (a<b)&&Yr (b::l)
 |_=>true
def JAE (n most:Nat)(ok rise:Bool):Int:=if most<n then 3 else if ok then (if rise then 0 else 7) else 1
theorem JAn {n most:Nat}{ok rise:Bool}(h:JAE n most ok rise=0):n≤most∧ok=true∧rise=true:=by
 unfold JAE at h
 split at h
 ·cases h
 ·cases ok<;>cases rise<;>simp at h;exact ⟨by omega,rfl,rfl⟩
structure Tr where
 flow:Int
 pour:Int
 shown:Int
 deriving DecidableEq,Inhabited
structure Sh where
 meter:Int
 tries:List Tr
 deriving DecidableEq,Inhabited
def JA9 (t:Tr):Bool:=Ys t.flow 1 100000&&Ys t.pour 0 9999999&&Ys t.shown 0 9999999
def JAO (x:Sh):Bool:=Ys x.meter 1 999999&&decide (x.tries.length≤6)&&x.tries.all JA9
def JC2 (l:List Sh):Int:=JAE l.length 12 (l.all JAO) (Yr (l.map Sh.meter))
def JBr (m:Int):Bs:=35::pad 48 6 (Jz m.toNat)
def Yz (t:Tr):Bs:=pad 32 6 (Jz t.flow.toNat)++32::(pad 32 7 (Jz t.pour.toNat)++32::pad 32 7 (Jz t.shown.toNat))
def full (h:Bs):Bs:=h++32::chk h
def JET (x:Sh):List Bs:=full (JBr x.meter)::x.tries.map fun t=>full (Yz t)
def JCr (l:List Sh):List Bs:=(l.map JET).flatten
def ZD (l:List Sh):Bs:=ends 10 (JCr l)
def JH5 (l:List Sh):Bs:=if JC2 l=0 then ZD l else []
theorem JSN (a b:List Sh):JCr (a++b)=JCr a++JCr b:=by simp [JCr]
theorem JUQ (a b:List Sh):ZD (a++b)=ZD a++ZD b:=by unfold ZD;rw [JSN,JEL]
theorem JI1 (h:Bs):(full h).length=h.length+2:=by unfold full;rw [List.length_append,List.length_cons,JQ4]
def Zv (text:Bs):Option (List Bs):=if text=[] then some [] else if text.getLast? = some 10 then some (Jt 10 text.dropLast) else none
theorem JSO {text:Bs}{ls:List Bs}(h:Zv text=some ls):text=ends 10 ls:=by
 unfold Zv at h
 split at h
 ·next e=>cases h;rw [e];rfl
 ·split at h
  ·next h0 hl=>
   cases h
   rw [JG0]
   obtain ⟨l,rfl⟩:∃l,text=l++[10]:=by
    rw [List.getLast?_eq_some_iff] at hl
    exact hl
   simp
  ·cases h
theorem JSP {ls:List Bs}(h:∀l∈ls,(10:UInt8) ∉ l):Zv (ends 10 ls)=some ls:=by
 unfold Zv
 by_cases h0:ls=[]
 ·subst h0;rfl
 ·obtain ⟨a,b,rfl⟩:∃a b,ls=a++[b]:=⟨ls.dropLast,ls.getLast h0,(List.dropLast_concat_getLast h0).symm⟩
  have e:ends 10 (a++[b])=(ends 10 a++b)++[10]:=by rw [JEL,JAm,JL0];simp
  have hc:=JIm 10 (a++[b]) h
  rw [e] at hc ⊢
  rw [JRH] at hc
  rw [if_neg (by simp),if_pos (by simp),List.dropLast_concat,List.append_cancel_right hc]
theorem JMQ {m:Int}(h0:0≤m)(h1:m≤999999):(JBr m).length=7:=by
 unfold JBr
 rw [List.length_cons,JFr]
 exact Zz (by omega) (by omega)
theorem JTL {t:Tr}(h:JA9 t=true):(pad 32 6 (Jz t.flow.toNat)).length=6∧(pad 32 7 (Jz t.pour.toNat)).length=7∧(pad 32 7 (Jz t.shown.toNat)).length=7:=by
 unfold JA9 at h
 simp only [Bool.and_eq_true,ZC] at h
 exact ⟨JFr _ (Zz (by omega) (by omega)),JFr _ (Zz (by omega) (by omega)),JFr _ (Zz (by omega) (by omega))⟩
theorem JNq {t:Tr}(h:JA9 t=true):(Yz t).length=22:=by
 obtain ⟨a,b,c⟩:=JTL h
 unfold Yz
 simp only [List.length_append,List.length_cons,a,b,c]
section fold
variable {f:List Sh→Bs→Option (List Sh)}
end fold
end Go.Bk
namespace Go.Bk
structure Pg where
 house:Int
 reads:List Int
 deriving DecidableEq,Inhabited
def ZE:List Int→Bool
 |a::b::l=>decide (a≤b)&&ZE (b::l)
 |_=>true
def YT (x:Pg):Bool:=Ys x.house 0 9999&&decide (x.reads.length≤16)&&x.reads.all (fun n=>Ys n 0 1073741824)&&ZE x.reads
def Yl (l:List Pg):Int:=JAE l.length 32 (l.all YT) (Yr (l.map Pg.house))
def Jm:List Int→List Int
 |a::b::l=>(b-a)::Jm (b::l)
 |_=>[]
def JCM (out:List (Nat × Int))(d:Int):List (Nat × Int):=match out.getLast? with
 |some (n,e)=>if e=d then out.dropLast++[(n+1,e)] else out++[(1,d)]
 |none=>[(1,d)]
def runs (ds:List Int):List (Nat × Int):=ds.foldl JCM []
def Y8 (g:Nat × Int):Bs:=if g.1=1 then Jz g.2.toNat else Jz g.1++120::Jz g.2.toNat
def Ym (x:Pg):List Bs:=Jz x.house.toNat::match x.reads with
 |[]=>[]
 |r::_=>Jz r.toNat::(runs (Jm x.reads)).map Y8
def blanks:List Bs→Bs
 |[]=>[]
 |[a]=>a
 |a::b::l=>a++32::blanks (b::l)
def ZK (x:Pg):Bs:=blanks (Ym x)
def YY (l:List Pg):Bs:=ends 10 (l.map ZK)
def JBB (l:List Pg):Bs:=if Yl l=0 then YY l else []
theorem JTR (a b:List Pg):YY (a++b)=YY a++YY b:=by unfold YY;rw [List.map_append,JEL]
theorem JB5 (a:Bs){l:List Bs}(h:l≠[]):blanks (a::l)=a++32::blanks l:=by
 cases l with
 |nil=>exact absurd rfl h
 |cons b l=>rfl
theorem JLp:∀(ws:List Bs),ws≠[]→(∀w∈ws,(32:UInt8) ∉ w)→Jt 32 (blanks ws)=ws
 |[],h,_=>absurd rfl h
 |[a],_,h=>JBm 32 a (h a (by simp))
 |a::b::l,_,h=>by
  rw [JB5 a (by simp),JCA 32 a _ (h a (by simp)),JLp (b::l) (by simp) (fun w hw=>h w (by simp [hw]))]
theorem JPT (l:Bs):blanks (Jt 32 l)=l:=by
 have h:∀ws:List Bs,ws≠[]→ends 32 ws=blanks ws++[32]:=by
  intro ws
  induction ws with
  |nil=>exact fun h=>absurd rfl h
  |cons a ws ih=>
   intro _
   by_cases h0:ws=[]
   ·subst h0;simp [ends,blanks]
   ·rw [JAm,ih h0,JB5 a h0];simp
 exact List.append_cancel_right ((h _ (JCg 32 l)).symm.trans (JG0 32 l))
theorem JI5:∀(ws:List Bs),Lib.join ws [32]=blanks ws
 |[]=>rfl
 |[a]=>Lib.join_one a _
 |a::b::l=>by
  rw [JB5 a (by simp),←JI5 (b::l),Lib.join_cons,Lib.join_cons]
  simp [Lib.joinTail]
theorem JEQ (n:Nat):(120:UInt8) ∉ Jz n:=fun h=>absurd (List.all_eq_true.1 (JH1 n) 120 h) (by decide)
theorem JR8 {c:UInt8}(hc:YU c=false)(hx:c≠120)(g:Nat × Int):c ∉ Y8 g:=by
 have ht:∀n,c ∉ Jz n:=fun n h=>by rw [List.all_eq_true.1 (JH1 n) c h] at hc;cases hc
 unfold Y8
 split
 ·exact ht _
 ·simp only [List.mem_append,List.mem_cons]
  rintro (h|h|h)
  ·exact ht _ h
  ·exact hx h
  ·exact ht _ h
theorem JO1 {c:UInt8}(hc:YU c=false)(hx:c≠120)(x:Pg):∀w∈Ym x,c ∉ w:=by
 have ht:∀n,c ∉ Jz n:=fun n h=>by rw [List.all_eq_true.1 (JH1 n) c h] at hc;cases hc
 intro w hw
 unfold Ym at hw
 rcases List.mem_cons.1 hw with h|h
 ·subst h;exact ht _
 ·split at h
  ·cases h
  ·rcases List.mem_cons.1 h with h|h
   ·subst h;exact ht _
   ·obtain ⟨g,_,rfl⟩:=List.mem_map.1 h;exact JR8 hc hx g
theorem JK6 {c:UInt8}(hc:c≠32):∀(ws:List Bs),(∀w∈ws,c ∉ w)→c ∉ blanks ws
 |[],_=>by simp [blanks]
 |[a],h=>h a (by simp)
 |a::b::l,h=>by
  rw [JB5 a (by simp),List.mem_append,List.mem_cons]
  rintro (h1|h1|h1)
  ·exact h a (by simp) h1
  ·exact hc h1
  ·exact JK6 hc (b::l) (fun w hw=>h w (by simp [hw])) h1
theorem JTO (x:Pg):(10:UInt8) ∉ ZK x:=JK6 (by decide) _ (JO1 (by decide) (by decide) x)
theorem JNC {l:List Pg}:∀y∈l.map ZK,(10:UInt8) ∉ y:=fun y h=>by
 obtain ⟨x,_,rfl⟩:=List.mem_map.1 h;exact JTO x
theorem JVm (x:Pg):Ym x≠[]:=by unfold Ym;simp
theorem JRL (l:List Pg):Jt 10 (YY l)=l.map ZK++[[]]:=JIm 10 _ JNC
theorem JLs (x:Pg):Jt 32 (ZK x)=Ym x:=JLp _ (JVm x) (JO1 (by decide) (by decide) x)
def Y9 (l:List Int):Int:=l.getLast?.getD 0
def Jq (d:Int):Nat→List Int→List Int
 |0,r=>r
 |n+1,r=>Jq d n (r++[Y9 r+d])
theorem JHV (l:List Int)(x:Int):Y9 (l++[x])=x:=by simp [Y9]
theorem Y4 (d:Int):∀(n:Nat) (r:List Int),(Jq d n r).length=r.length+n
 |0,_=>rfl
 |n+1,r=>by rw [Jq,Y4 d n];simp;omega
theorem JKx (d:Int)(n:Nat){r:List Int}(h:r≠[]):Jq d n r≠[]:=by
 have:=Y4 d n r
 have:=List.length_pos_iff.2 h
 exact List.length_pos_iff.1 (by omega)
theorem JAw (d:Int):∀(n:Nat) (r:List Int),Jq d (n+1) r=Jq d n r++[Y9 (Jq d n r)+d]
 |0,r=>rfl
 |n+1,r=>by rw [Jq,JAw d n,Jq]
theorem JEI:∀(r:List Int) (x:Int),r≠[]→Jm (r++[x])=Jm r++[x-Y9 r]
 |[],_,h=>absurd rfl h
 |[a],x,_=>by simp [Jm,Y9]
 |a::b::l,x,_=>by
  have:=JEI (b::l) x (by simp)
  rw [List.cons_append] at this
  simp only [List.cons_append,Jm,this]
  simp [Y9]
theorem JBK:∀(r:List Int),(Jm r).length=r.length-1
 |[]=>rfl
 |[_]=>rfl
 |a::b::l=>by simp [Jm,JBK (b::l)]
theorem JIp (d:Int):∀(n:Nat) (r:List Int),r≠[]→Jm (Jq d n r)=Jm r++List.replicate n d
 |0,r,_=>by simp [Jq]
 |n+1,r,h=>by
  rw [Jq,JIp d n _ (by simp),JEI r _ h,List.replicate_succ]
  simp;omega
def good:List (Nat × Int)→Prop
 |[]=>True
 |[a]=>1≤a.1
 |a::b::l=>1≤a.1∧a.2≠b.2∧good (b::l)
theorem JEa (gs:List (Nat × Int))(n:Nat)(e d:Int):JCM (gs++[(n,e)]) d=if e=d then gs++[(n+1,e)] else gs++[(n,e),(1,d)]:=by
 unfold JCM;simp
theorem JER:∀(gs:List (Nat × Int)) (g:Nat × Int),good (gs++[g])↔good gs∧1≤g.1∧∀h,gs.getLast? = some h→h.2≠g.2
 |[],g=>by simp [good]
 |[a],g=>by
  simp only [List.cons_append,List.nil_append,good,List.getLast?_singleton,Option.some.injEq,forall_eq']
  constructor
  ·rintro ⟨h1,h2,h3⟩;exact ⟨h1,h3,h2⟩
  ·rintro ⟨h1,h2,h3⟩;exact ⟨h1,h3,h2⟩
 |a::b::l,g=>by
  have ih:=JER (b::l) g
  simp only [List.cons_append] at ih ⊢
  rw [good,good,ih]
  simp only [List.getLast?_cons_cons]
  constructor
  ·rintro ⟨h1,h2,h3,h4,h5⟩;exact ⟨⟨h1,h2,h3⟩,h4,h5⟩
  ·rintro ⟨⟨h1,h2,h3⟩,h4,h5⟩;exact ⟨h1,h2,h3,h4,h5⟩
def spread (gs:List (Nat × Int)):List Int:=(gs.map fun g=>List.replicate g.1 g.2).flatten
theorem JEi (gs:List (Nat × Int))(g:Nat × Int):spread (gs++[g])=spread gs++List.replicate g.1 g.2:=by simp [spread]
theorem JJ7 (ds:List Int)(d:Int):runs (ds++[d])=JCM (runs ds) d:=by simp [runs]
theorem JF2 (ds:List Int):good (runs ds)∧spread (runs ds)=ds:=by
 induction ds using JDi with
 |nil=>exact ⟨trivial,rfl⟩
 |snoc ds d ih=>
  obtain ⟨h1,h2⟩:=ih
  rw [JJ7]
  by_cases h0:runs ds=[]
  ·rw [h0] at h2 ⊢
   rw [←h2]
   exact ⟨Nat.le_refl 1,rfl⟩
  ·obtain ⟨gs,⟨n,e⟩,hg⟩:∃a b,runs ds=a++[b]:=⟨_,_,(List.dropLast_concat_getLast h0).symm⟩
   rw [hg] at h1 h2 ⊢
   rw [JEa]
   rw [JEi] at h2
   have hs:=(JER gs (n,e)).1 h1
   split
   ·next he=>
    subst he
    refine ⟨(JER gs (n+1,e)).2 ⟨hs.1,by simp,hs.2.2⟩,?_⟩
    rw [JEi,←h2,List.append_assoc]
    simp [List.replicate_succ']
   ·next he=>
    rw [show gs++[(n,e),(1,d)]=(gs++[(n,e)])++[(1,d)] by simp]
    refine ⟨(JER _ _).2 ⟨h1,Nat.le_refl 1,fun h hh=>?_⟩,?_⟩
    ·simp at hh;subst hh;exact he
    ·rw [JEi,JEi,h2];rfl
theorem JNP (gs:List (Nat × Int))(d:Int)(h:∀g,gs.getLast? = some g→g.2≠d):∀n,(List.replicate (n+1) d).foldl JCM gs=gs++[(n+1,d)]
 |0=>by
  show JCM gs d=_
  by_cases h0:gs=[]
  ·subst h0;rfl
  ·obtain ⟨a,⟨k,e⟩,rfl⟩:∃a b,gs=a++[b]:=⟨_,_,(List.dropLast_concat_getLast h0).symm⟩
   have he:=h (k,e) (by simp)
   rw [JEa,if_neg he];simp
 |n+1=>by
  rw [List.replicate_succ',List.foldl_append,JNP gs d h n]
  show JCM (gs++[(n+1,d)]) d=_
  rw [JEa,if_pos rfl]
theorem JUI (gs:List (Nat × Int))(h:good gs):runs (spread gs)=gs:=by
 induction gs using JDi with
 |nil=>rfl
 |snoc gs g ih=>
  obtain ⟨h1,h2,h3⟩:=(JER gs g).1 h
  rw [JEi]
  unfold runs
  rw [List.foldl_append]
  have:=ih h1
  unfold runs at this
  rw [this]
  obtain ⟨n,d⟩:=g
  obtain ⟨k,rfl⟩:∃k,n=k+1:=⟨n-1,by simp at h2;omega⟩
  exact JNP gs d h3 k
def JMN (r:List Int)(many:Nat)(d:Int):List Int:=Jq d (min many (17-r.length)) r
def Zw (w:Bs):Nat:=if 1<(Jt 120 w).length then YM ((Jt 120 w).headD []) else 1
def ZV (w:Bs):Nat:=YM ((Jt 120 w).getLastD [])
def JDn (r:List Int)(w:Bs):List Int:=JMN r (Zw w) (ZV w)
def JCv (line:Bs):Pg:=match Jt 32 line with
 |[]=>⟨0,[]⟩
 |[h]=>⟨YM h,[]⟩
 |h::r::ws=>⟨YM h,ws.foldl JDn [(YM r:Int)]⟩
def Qo (text:Bs):List Pg:=((Jt 10 text).dropLast.take 33).map JCv
def JAh (text:Bs):Option (List Pg):=if Yl (Qo text)=0∧YY (Qo text)=text then some (Qo text) else none
def JAo (w:Bs):Option (Nat × Int):=match Jt 120 w with
 |[a]=>if YD a=true then some (1,JW a) else none
 |a::r=>if (YD a=true∧YD (w.drop (a.length+1))=true)∧2≤JW a∧JW a≤16 then some (JW a,JW (w.drop (a.length+1))) else none
 |[]=>none
structure St where
 reads:List Int
 last:Nat × Int
def ZP (s:St)(w:Bs):Option St:=(JAo w).bind fun g=>if (s.last.1=0∨s.last.2≠g.2)∧s.reads.length+g.1≤16 then some ⟨Jq g.2 g.1 s.reads,g⟩ else none
def Yp (line:Bs):Option Pg:=match Jt 32 line with
 |[]=>none
 |[h]=>if YD h=true then some ⟨JW h,[]⟩ else none
 |h::r::ws=>if YD h=true∧YD r=true then (ws.foldlM ZP ⟨[(JW r:Int)],(0,0)⟩).map fun s=>⟨JW h,s.reads⟩ else none
def JDk (text:Bs):Option (List Pg):=(Zv text).bind fun ls=>ls.mapM Yp
def ZM (text:Bs):Option (List Pg):=(JDk text).bind fun l=>if Yl l=0 then some l else none
theorem JR3 {w:Bs}{g:Nat × Int}(h:JAo w=some g):w=Y8 g∧1≤g.1:=by
 unfold JAo at h
 split at h
 ·next a ha=>
  split at h
  ·next hf=>
   cases h
   have:w=a:=by
    have:=JG0 120 w
    rw [ha,JAm,JL0] at this
    exact (List.append_cancel_right this).symm
   subst this
   exact ⟨by unfold Y8;simp [JEO hf],Nat.le_refl 1⟩
  ·cases h
 ·next a r hne ha=>
  split at h
  ·next hc=>
   cases h
   obtain ⟨⟨h1,h2⟩,h3,h4⟩:=hc
   have hw:w=a++120::w.drop (a.length+1):=by
    have:=JG0 120 w
    rw [ha,JAm] at this
    have hr:r≠[]:=fun e=>hne e
    have hl:(a++120::ends 120 r).length=w.length+1:=by rw [this];simp
    have hp:1≤(ends 120 r).length:=by
     cases r with
     |nil=>exact absurd rfl hr
     |cons b r=>rw [JAm];simp;omega
    simp at hl
    have h1:(w++[120]).take (a.length+1)=a++[120]:=by
     rw [←this,show a++120::ends 120 r=(a++[120])++ends 120 r by simp,List.take_left' (by simp)]
    have h2:w.take (a.length+1)=a++[120]:=by rw [←h1,List.take_append_of_le_length (by omega)]
    have:=List.take_append_drop (a.length+1) w
    rw [h2] at this
    rw [←this];simp
   refine ⟨?_,by simp;omega⟩
   unfold Y8
   simp only [Int.toNat_natCast]
   rw [if_neg (by omega),JEO h1,JEO h2];exact hw
  ·cases h
 ·cases h
theorem JR4 {n:Nat}{d:Int}(h1:1≤n)(h2:n≤16)(h3:0≤d)(h4:d<10^12):JAo (Y8 (n,d))=some (n,d):=by
 have hd:((d.toNat:Nat):Int)=d:=Int.toNat_of_nonneg h3
 unfold JAo Y8
 by_cases hn:n=1
 ·subst hn
  simp only [if_true]
  rw [JBm 120 _ (JEQ _)]
  simp only
  rw [if_pos (JEN (by omega)),JEm,hd]
 ·simp only
  rw [if_neg hn,JCA 120 _ _ (JEQ _),JBm 120 _ (JEQ _)]
  simp only
  have e:(Jz n++120::Jz d.toNat).drop ((Jz n).length+1)=Jz d.toNat:=by
   rw [show Jz n++120::Jz d.toNat=(Jz n++[120])++Jz d.toNat by simp,List.drop_left' (by simp)]
  rw [e,JEm,JEm,if_pos ⟨⟨JEN (by omega),JEN (by omega)⟩,by omega,h2⟩,hd]
theorem JBq:∀(gs:List (Nat × Int)),good gs→∀g∈gs,1≤g.1
 |[],_,_,h=>by cases h
 |[a],h,g,hg=>by simp at hg;subst hg;exact h
 |a::b::l,h,g,hg=>by
  rcases List.mem_cons.1 hg with e|e
  ·subst e;exact h.1
  ·exact JBq (b::l) h.2.2 g e
theorem JO0 {r0:Int}:∀(ws:List Bs) (s s':St) (gs:List (Nat × Int)),good gs→s.reads≠[]→s.reads.head? = some r0→Jm s.reads=spread gs→(s.last=(0,0)∧gs=[]∨gs.getLast? = some s.last) →
  ws.foldlM ZP s=some s' → ∃gs',good gs' ∧ s'.reads≠[]∧s'.reads.head? = some r0∧Jm s'.reads=spread gs' ∧ gs'.map Y8=gs.map Y8++ws
 |[],s,s',gs,hg,h0,hh,hd,_,h=>by simp at h;subst h;exact ⟨gs,hg,h0,hh,hd,by simp⟩
 |w::ws,s,s',gs,hg,h0,hh,hd,hl,h=>by
  rw [List.foldlM_cons] at h
  obtain ⟨s1,h1,h2⟩:=Option.bind_eq_some_iff.1 h
  unfold ZP at h1
  obtain ⟨g,hgw,h3⟩:=Option.bind_eq_some_iff.1 h1
  split at h3
  ·next hc=>
   cases h3
   obtain ⟨hw,hn⟩:=JR3 hgw
   have hg':good (gs++[g]):=(JER gs g).2 ⟨hg,hn,fun k hk=>by
    rcases hl with ⟨_,e⟩|e
    ·subst e;cases hk
    ·rw [e] at hk
     cases hk
     rcases hc.1 with hz|hz
     ·have:=JBq gs hg s.last (List.mem_of_getLast? e);omega
     ·exact hz⟩
   have hh':(Jq g.2 g.1 s.reads).head? = some r0:=by
    have:∀(n:Nat) (r:List Int),r.head? = some r0→(Jq g.2 n r).head? = some r0:=by
     intro n
     induction n with
     |zero=>exact fun r h=>h
     |succ n ih=>intro r h;rw [Jq];apply ih;cases r with
      |nil=>cases h
      |cons a l=>exact h
    exact this _ _ hh
   obtain ⟨gs',a1,a2,a3,a4,a5⟩:=JO0 ws _ s' (gs++[g]) hg' (JKx _ _ h0) hh' (by rw [JIp _ _ _ h0,hd,JEi]) (.inr (by simp)) h2
   exact ⟨gs',a1,a2,a3,a4,by rw [a5,hw];simp⟩
  ·cases h3
theorem JTP {line:Bs}{x:Pg}(h:Yp line=some x):line=ZK x:=by
 unfold Yp at h
 rw [←JPT line]
 unfold ZK
 split at h
 ·cases h
 ·next a ha=>
  split at h
  ·next hf=>cases h;rw [ha];unfold Ym;simp [JEO hf]
  ·cases h
 ·next a r ws ha=>
  split at h
  ·next hf=>
   obtain ⟨s,hs,rfl⟩:=Option.map_eq_some_iff.1 h
   obtain ⟨gs,h1,h2,h3,h4,h5⟩:=JO0 (r0:=(JW r:Int)) ws _ s [] trivial (by simp) rfl rfl (.inl ⟨rfl,rfl⟩) hs
   rw [ha]
   unfold Ym
   cases hr:s.reads with
   |nil=>exact absurd hr h2
   |cons b l=>
    rw [hr] at h3 h4
    simp only [List.head?_cons,Option.some.injEq] at h3
    rw [←hr] at h4
    simp only [hr,h3,Int.toNat_natCast,JEO hf.1,JEO hf.2]
    rw [←h3,←hr,h4,JUI gs h1,h5]
    rfl
  ·cases h
theorem JMn:∀(ls:List Bs) (l:List Pg),ls.mapM Yp=some l→ls=l.map ZK
 |[],l,h=>by simp at h;subst h;rfl
 |x::ls,l,h=>by
  rw [List.mapM_cons] at h
  obtain ⟨p,h1,h2⟩:=Option.bind_eq_some_iff.1 h
  obtain ⟨ps,h3,h4⟩:=Option.bind_eq_some_iff.1 h2
  simp at h4;subst h4
  rw [List.map_cons,←JTP h1,←JMn ls ps h3]
theorem JVF {text:Bs}{l:List Pg}(h:JDk text=some l):YY l=text:=by
 unfold JDk at h
 obtain ⟨ls,h1,h2⟩:=Option.bind_eq_some_iff.1 h
 unfold YY
 rw [←JMn ls l h2,←JSO h1]
theorem JTu:∀(gs:List (Nat × Int)) (r r':List Int),r≠[]→(∃t,r'=r++t)→Jm r'=Jm r++spread gs→gs.foldl (fun a g=>Jq g.2 g.1 a) r=r':=by
 have key:∀(t:List Int) (r:List Int) ,r≠[]→∀ds,Jm (r++t)=Jm r++ds→t.length=ds.length:=by
  intro t r h0 ds h
  have:=congrArg List.length h
  rw [List.length_append,JBK,JBK,List.length_append] at this
  have:=List.length_pos_iff.2 h0
  omega
 have one:∀(d:Int) (n:Nat) (r t:List Int),r≠[]→∀ds,Jm (r++t)=Jm r++(List.replicate n d++ds)→∃t',r++t=Jq d n r++t':=by
  intro d n
  induction n with
  |zero=>exact fun r t _ ds _=>⟨t,rfl⟩
  |succ n ih=>
   intro r t h0 ds h
   cases t with
   |nil=>have:=key [] r h0 _ h;simp at this;omega
   |cons x t=>
    have e:r++x::t=(r++[x])++t:=by simp
    have hx:x-Y9 r=d:=by
     have h':=h
     rw [e] at h'
     have hpre:∀(t:List Int) (q:List Int),q≠[]→∃z,Jm (q++t)=Jm q++z:=by
      intro t
      induction t with
      |nil=>exact fun q _=>⟨[],by simp⟩
      |cons y t ih2=>
       intro q hq
       obtain ⟨z,hz⟩:=ih2 (q++[y]) (by simp)
       refine ⟨(y-Y9 q)::z,?_⟩
       rw [show q++y::t=(q++[y])++t by simp,hz,JEI q y hq];simp
     obtain ⟨z,hz⟩:=hpre t (r++[x]) (by simp)
     rw [hz,JEI r x h0,List.append_assoc] at h'
     have:=List.append_cancel_left h'
     rw [List.replicate_succ] at this
     simp at this
     exact this.1
    have hr:r++[x]=r++[Y9 r+d]:=by congr 2;omega
    rw [e]
    have:=ih (r++[x]) t (by simp) ds (by
     rw [←e,h,JEI r x h0,hx,List.replicate_succ];simp)
    rw [Jq,←hr]
    exact this
 intro gs
 induction gs with
 |nil=>
  intro r r' h0 ⟨t,ht⟩ h
  subst ht
  have:=key t r h0 [] (by simpa [spread] using h)
  have:t=[]:=List.eq_nil_of_length_eq_zero this
  subst this;simp
 |cons g gs ih=>
  intro r r' h0 ⟨t,ht⟩ h
  subst ht
  have hsp:spread (g::gs)=List.replicate g.1 g.2++spread gs:=by simp [spread]
  rw [hsp] at h
  obtain ⟨t',ht'⟩:=one g.2 g.1 r t h0 _ h
  rw [List.foldl_cons]
  refine ih (Jq g.2 g.1 r) _ (JKx _ _ h0) ⟨t',ht'⟩ ?_
  rw [h,JIp _ _ _ h0,List.append_assoc]
theorem JOQ:∀(r:List Int),ZE r=true→∀d∈Jm r,0≤d
 |[],_,_,h=>by cases h
 |[_],_,_,h=>by cases h
 |a::b::l,hs,d,h=>by
  simp only [ZE,Bool.and_eq_true,decide_eq_true_eq] at hs
  simp only [Jm] at h
  rcases List.mem_cons.1 h with e|e
  ·subst e;omega
  ·exact JOQ (b::l) hs.2 d e
theorem JLw:∀(r:List Int),(∀n∈r,Ys n 0 1073741824=true)→∀d∈Jm r,d≤1073741824
 |[],_,_,h=>by cases h
 |[_],_,_,h=>by cases h
 |a::b::l,hs,d,h=>by
  have ha:=ZC.1 (hs a (by simp))
  have hb:=ZC.1 (hs b (by simp))
  simp only [Jm] at h
  rcases List.mem_cons.1 h with e|e
  ·subst e;omega
  ·exact JLw (b::l) (fun n hn=>hs n (by simp [hn])) d e
theorem JU9 {gs:List (Nat × Int)}(hg:good gs){g:Nat × Int}(h:g∈gs):g.2∈spread gs:=by
 have:=JBq gs hg g h
 unfold spread
 exact List.mem_flatten.2 ⟨_,List.mem_map.2 ⟨g,h,rfl⟩,List.mem_replicate.2 ⟨by omega,rfl⟩⟩
def Ji (gs:List (Nat × Int)):Nat:=(gs.map Prod.fst).sum
theorem JDj (gs:List (Nat × Int)):(spread gs).length=Ji gs:=by
 induction gs with
 |nil=>rfl
 |cons g gs ih=>simp only [spread,Ji,List.map_cons,List.flatten_cons,List.length_append,List.length_replicate,List.sum_cons] at ih ⊢;omega
structure JO7 (x:Pg) (r:Int) (gs:List (Nat × Int)):Prop where
 good:good gs
 eq:runs (Jm x.reads)=gs
 reads:gs.foldl (fun a g=>Jq g.2 g.1 a) [r]=x.reads
 by0:∀g∈gs,0≤g.2∧g.2≤1073741824
 len:1+Ji gs≤16
theorem JDX {x:Pg}(hx:YT x=true){r:Int}{t:List Int}(hr:x.reads=r::t):JO7 x r (runs (Jm x.reads)):=by
 unfold YT at hx
 simp only [Bool.and_eq_true,decide_eq_true_eq] at hx
 obtain ⟨⟨⟨_,h2⟩,h3⟩,h4⟩:=hx
 obtain ⟨g1,g2⟩:=JF2 (Jm x.reads)
 have h3':=List.all_eq_true.1 h3
 refine ⟨g1,rfl,JTu _ [r] x.reads (by simp) ⟨t,by rw [hr];rfl⟩ (by rw [g2];rfl),fun g hg=>?_,?_⟩
 ·have hm:g.2∈Jm x.reads:=by
   have:=JU9 g1 hg
   rwa [g2] at this
  exact ⟨JOQ _ h4 _ hm,JLw _ h3' _ hm⟩
 ·have:=JDj (runs (Jm x.reads))
  rw [g2,JBK] at this
  rw [hr] at this h2 ⊢
  simp at this h2
  omega
theorem JOz:∀(gs:List (Nat × Int)) (s:St),good gs→(∀g∈gs,0≤g.2∧g.2≤1073741824)→s.reads.length+Ji gs≤16→(∀g,gs.head? = some g→s.last.1=0∨s.last.2≠g.2) →
  ∃q,(gs.map Y8).foldlM ZP s=some ⟨gs.foldl (fun a g=>Jq g.2 g.1 a) s.reads,q⟩
 |[],s,_,_,_,_=>⟨s.last,rfl⟩
 |(n,d)::gs,s,hg,h0,hl,hd=>by
  have hn:1≤n:=JBq _ hg (n,d) (by simp)
  have hb:=h0 (n,d) (by simp)
  have ht:Ji ((n,d)::gs)=n+Ji gs:=by simp [Ji]
  rw [ht] at hl
  have e:ZP s (Y8 (n,d))=some ⟨Jq d n s.reads,(n,d)⟩:=by
   unfold ZP
   rw [JR4 hn (by omega) hb.1 (by simp at hb;omega)]
   show (if _ then _ else _)=_
   rw [if_pos ⟨hd (n,d) rfl,by simp;omega⟩]
  have hg':good gs:=by
   cases gs with
   |nil=>trivial
   |cons b l=>exact hg.2.2
  obtain ⟨q,hq⟩:=JOz gs ⟨Jq d n s.reads,(n,d)⟩ hg' (fun g hm=>h0 g (by simp [hm])) (by simp only [Y4];omega) (fun g hh=>by
   cases gs with
   |nil=>cases hh
   |cons b l=>simp at hh;subst hh;exact .inr hg.2.1)
  refine ⟨q,?_⟩
  rw [List.map_cons,List.foldlM_cons,e]
  exact hq
theorem JTQ {x:Pg}(h:YT x=true):Yp (ZK x)=some x:=by
 have h':=h
 unfold YT at h'
 simp only [Bool.and_eq_true,decide_eq_true_eq,ZC] at h'
 obtain ⟨⟨⟨h1,h2⟩,h3⟩,h4⟩:=h'
 have hh:((x.house.toNat:Nat):Int)=x.house:=Int.toNat_of_nonneg h1.1
 unfold Yp
 rw [JLs]
 unfold Ym
 cases hr:x.reads with
 |nil=>
  simp only
  rw [if_pos (JEN (by omega)),JEm,hh,←hr]
 |cons r t=>
  have hp:=JDX h hr
  have hr0:=ZC.1 (List.all_eq_true.1 h3 r (by rw [hr];simp))
  have hrn:((r.toNat:Nat):Int)=r:=Int.toNat_of_nonneg hr0.1
  simp only
  rw [if_pos ⟨JEN (by omega),JEN (by omega)⟩,JEm,JEm,hh,hrn,←hr]
  obtain ⟨q,hq⟩:=JOz (runs (Jm x.reads)) ⟨[r],(0,0)⟩ hp.good hp.by0 (by have:=hp.len;simp;omega) (fun _ _=>.inl rfl)
  rw [hq,hp.reads]
  rfl
theorem JVG {l:List Pg}(h:Yl l=0):JDk (YY l)=some l:=by
 have hok:=(JAn h).2.1
 unfold JDk YY
 rw [JSP JNC]
 show List.mapM Yp _=_
 clear h
 induction l with
 |nil=>rfl
 |cons x l ih=>
  simp only [List.all_cons,Bool.and_eq_true] at hok
  rw [List.map_cons,List.mapM_cons,JTQ hok.1,ih hok.2];rfl
theorem JLr (n:Nat)(d:Int):Jt 120 (Y8 (n,d))=if n=1 then [Jz d.toNat] else [Jz n,Jz d.toNat]:=by
 unfold Y8
 simp only
 split
 ·exact JBm 120 _ (JEQ _)
 ·rw [JCA 120 _ _ (JEQ _),JBm 120 _ (JEQ _)]
theorem JVl {r:List Int}{n:Nat}{d:Int}(h1:1≤n)(h2:0≤d)(h3:d≤1073741824)(h4:r.length+n≤16):JDn r (Y8 (n,d))=Jq d n r:=by
 have hd:((d.toNat:Nat):Int)=d:=Int.toNat_of_nonneg h2
 have e1:ZV (Y8 (n,d))=d.toNat:=by
  unfold ZV
  rw [JLr]
  split<;>simp [JGI (show d.toNat≤2^40 by omega)]
 have e2:Zw (Y8 (n,d))=n:=by
  unfold Zw
  rw [JLr]
  split
  ·next h=>simp [h]
  ·simp [JGI (show n≤2^40 by omega)]
 unfold JDn JMN
 rw [e1,e2,hd,show min n (17-r.length)=n by omega]
theorem JOy:∀(gs:List (Nat × Int)) (r:List Int),good gs→(∀g∈gs,0≤g.2∧g.2≤1073741824)→r.length+Ji gs≤16→(gs.map Y8).foldl JDn r=gs.foldl (fun a g=>Jq g.2 g.1 a) r
 |[],_,_,_,_=>rfl
 |(n,d)::gs,r,hg,h0,hl=>by
  have hn:1≤n:=JBq _ hg (n,d) (by simp)
  have hb:=h0 (n,d) (by simp)
  have ht:Ji ((n,d)::gs)=n+Ji gs:=by simp [Ji]
  rw [ht] at hl
  have hg':good gs:=by
   cases gs with
   |nil=>trivial
   |cons b l=>exact hg.2.2
  rw [List.map_cons,List.foldl_cons,List.foldl_cons,JVl hn hb.1 hb.2 (by omega)]
  exact JOy gs _ hg' (fun g hm=>h0 g (by simp [hm])) (by rw [Y4];omega)
theorem JTN {x:Pg}(h:YT x=true):JCv (ZK x)=x:=by
 have h':=h
 unfold YT at h'
 simp only [Bool.and_eq_true,decide_eq_true_eq,ZC] at h'
 obtain ⟨⟨⟨h1,h2⟩,h3⟩,h4⟩:=h'
 have hh:((x.house.toNat:Nat):Int)=x.house:=Int.toNat_of_nonneg h1.1
 unfold JCv
 rw [JLs]
 unfold Ym
 cases hr:x.reads with
 |nil=>
  simp only
  rw [JGI (by omega),hh,←hr]
 |cons r t=>
  have hp:=JDX h hr
  have hr0:=ZC.1 (List.all_eq_true.1 h3 r (by rw [hr];simp))
  have hrn:((r.toNat:Nat):Int)=r:=Int.toNat_of_nonneg hr0.1
  simp only
  rw [JGI (by omega),JGI (by omega),hh,hrn,←hr,JOy _ _ hp.good hp.by0 (by have:=hp.len;simp;omega),hp.reads]
theorem JST {l:List Pg}(h:Yl l=0):Qo (YY l)=l:=by
 have hl:=(JAn h).1
 have hok:=(JAn h).2.1
 unfold Qo
 rw [JRL,List.dropLast_concat,List.take_of_length_le ZS,List.map_map]
 clear h hl
 induction l with
 |nil=>rfl
 |cons x l ih=>
  simp only [List.all_cons,Bool.and_eq_true] at hok
  rw [List.map_cons,ih hok.2]
  show JCv (ZK x)::l=_
  rw [JTN hok.1]
theorem JJu {text:Bs}{l:List Pg}:JAh text=some l↔Yl l=0∧YY l=text:=by
 unfold JAh
 constructor
 ·intro h
  split at h
  ·next hc=>cases h;exact hc
  ·cases h
 ·rintro ⟨h1,h2⟩
  subst h2
  rw [JST h1,if_pos ⟨h1,rfl⟩]
theorem JND {text:Bs}{l:List Pg}:ZM text=some l↔Yl l=0∧YY l=text:=by
 unfold ZM
 constructor
 ·intro h
  obtain ⟨l',h1,h2⟩:=Option.bind_eq_some_iff.1 h
  split at h2
  ·next hc=>cases h2;exact ⟨hc,JVF h1⟩
  ·cases h2
 ·rintro ⟨h1,h2⟩
  subst h2
  rw [JVG h1]
  show (if _ then _ else _)=_
  rw [if_pos h1]
theorem JJj (text:Bs):ZM text=JAh text:=by
 cases h:JAh text with
 |some l=>exact JND.2 (JJu.1 h)
 |none=>
  cases h2:ZM text with
  |none=>rfl
  |some l=>rw [JJu.2 (JND.1 h2)] at h;cases h
end Go.Bk
namespace Go.Bk
abbrev Bits:=List Bool
def JX:Nat→Nat→Bits
 |0,_=>[]
 |k+1,n=>JX k (n / 2)++[n%2==1]
def J8 (s:Bits):Nat:=s.foldl (fun n b=>2*n+b.toNat) 0
theorem Yd:∀(k n:Nat),(JX k n).length=k
 |0,_=>rfl
 |k+1,n=>by simp [JX,Yd k]
theorem JC5 (s:Bits)(b:Bool):J8 (s++[b])=2*J8 s+b.toNat:=by simp [J8]
theorem JHy (n:Nat):(n%2==1).toNat=n%2:=by
 rcases Nat.mod_two_eq_zero_or_one n with h|h<;>rw [h]<;>rfl
theorem JAq:∀(k n:Nat),n<2^k→J8 (JX k n)=n
 |0,n,h=>by simp at h;subst h;rfl
 |k+1,n,h=>by
  rw [JX,JC5,JAq k (n / 2) (by rw [Nat.pow_succ] at h;omega),JHy];omega
theorem JBX (s:Bits):J8 s<2^s.length:=by
 induction s using JDi with
 |nil=>simp [J8]
 |snoc s b ih=>
  rw [JC5,List.length_append,List.length_singleton,Nat.pow_succ]
  have:b.toNat≤1:=by cases b<;>decide
  omega
theorem JMu (s:Bits):JX s.length (J8 s)=s:=by
 induction s using JDi with
 |nil=>rfl
 |snoc s b ih=>
  rw [List.length_append,List.length_singleton,JX,JC5]
  have h1:(2*J8 s+b.toNat) / 2=J8 s:=by cases b<;>simp<;>omega
  have h2:((2*J8 s+b.toNat)%2==1)=b:=by cases b<;>simp<;>omega
  rw [h1,h2,ih]
theorem JJX:∀(L a n:Nat),n<2^L→JX (a+L) n=List.replicate a false++JX L n
 |0,0,n,_=>rfl
 |0,a+1,n,h=>by
  simp at h;subst h
  show JX a (0 / 2)++[false]=_
  rw [Nat.zero_div,List.replicate_succ']
  have:=JJX 0 a 0 (by simp)
  rw [Nat.add_zero] at this
  rw [this];simp [JX]
 |L+1,a,n,h=>by
  rw [←Nat.add_assoc,JX,JJX L a (n / 2) (by rw [Nat.pow_succ] at h;omega),JX,List.append_assoc]
theorem JMt : ∀ (L n : Nat), 2 ^ L ≤ n → n < 2 ^ (L + 1) → JX (L + 1) n = true :: JX L n
  | 0, n, h1, h2 => by simp at h1 h2; have : n = 1 := by omega
                       subst this;rfl
  | L + 1, n, h1, h2 => by
    have h3:=JMt L (n / 2) (by rw [Nat.pow_succ] at h1;omega) (by rw [Nat.pow_succ] at h2;omega)
    rw [JX,h3];rfl
theorem JHZ:∀(L n:Nat),JX L (n%2^L)=JX L n
 |0,_=>rfl
 |L+1,n=>by
  have h1:n%2^(L+1) / 2=n / 2%2^L:=by rw [Nat.pow_succ,Nat.mul_comm];exact Nat.mod_mul_right_div_self ..
  have h2:n%2^(L+1)%2=n%2:=Nat.mod_mod_of_dvd _ (by rw [Nat.pow_succ];exact Nat.dvd_mul_left _ _)
  rw [JX,h1,h2,JHZ L,JX]
def bl (n:Nat):Nat:=if h:n<2 then 1 else bl (n / 2)+1
termination_by n
decreasing_by omega
theorem JK4 {n:Nat}(h:n<2):bl n=1:=by rw [bl,dif_pos h]
theorem JPQ {n:Nat}(h:¬n<2):bl n=bl (n / 2)+1:=by rw [bl,dif_neg h]
theorem JCe (n:Nat):1≤bl n∧n<2^bl n∧(1≤n→2^(bl n-1)≤n):=by
 induction n using Nat.strongRecOn with
 |_ n ih=>
  by_cases h:n<2
  ·rw [JK4 h];refine ⟨Nat.le_refl _,by simpa using h,fun h1=>by simpa using h1⟩
  ·obtain ⟨h1,h2,h3⟩:=ih (n / 2) (by omega)
   rw [JPQ h]
   refine ⟨by omega,by rw [Nat.pow_succ];omega,fun _=>?_⟩
   have:=h3 (by omega)
   obtain ⟨k,hk⟩:∃k,bl (n / 2)=k+1:=⟨bl (n / 2)-1,by omega⟩
   rw [hk] at this ⊢
   simp only [Nat.add_sub_cancel] at this ⊢
   rw [Nat.pow_succ];omega
theorem JED {n k:Nat}(h:n<2^k)(hk:1≤k):bl n≤k:=by
 obtain ⟨h1,_,h3⟩:=JCe n
 rcases Nat.eq_zero_or_pos n with e|e
 ·rw [e,JK4 (by omega)];exact hk
 ·refine Nat.le_of_not_lt fun hlt=>?_
  have h4:=h3 e
  have:=Nat.pow_le_pow_right (show 0<2 by omega) (show k≤bl n-1 by omega)
  omega
theorem JK5 {n k:Nat}(h1:2^k≤n)(h2:n<2^(k+1)):bl n=k+1:=by
 have a:=JED h2 (by omega)
 obtain ⟨h3,h4,_⟩:=JCe n
 refine Nat.le_antisymm a (Nat.le_of_not_lt fun hlt=>?_)
 have:=Nat.pow_le_pow_right (show 0<2 by omega) (show bl n≤k by omega)
 omega
theorem JPR {n:Nat}(h1:1≤n)(h2:n<18446744073709551616):Lib.bitLen n=bl n:=by
 obtain ⟨a,b,c⟩:=Lib.bitLenAux_bounds 64 n h2 (by omega)
 unfold Lib.bitLen
 generalize Lib.bitLenAux 64 n=L at a b c
 obtain ⟨k,rfl⟩:∃k,L=k+1:=⟨L-1,by omega⟩
 exact (JK5 b c).symm
def YS (n:Nat):Bits:=JX (2*bl n-1) n
theorem JHM {n:Nat}(h:1≤n):YS n=List.replicate (bl n-1) false++true::JX (bl n-1) n:=by
 obtain ⟨h1,h2,h3⟩:=JCe n
 unfold YS
 rw [show 2*bl n-1=(bl n-1)+bl n by omega,JJX _ _ _ h2]
 congr 1
 have:=JMt (bl n-1) n (h3 h) (by rw [show bl n-1+1=bl n by omega];exact h2)
 rw [show bl n-1+1=bl n by omega] at this
 exact this
structure Pl where
 num:Int
 cls:Int
 day:Int
 deriving DecidableEq,Inhabited
def JAH (x:Pl):Bool:=Ys x.num 1 65535&&Ys x.cls 0 7&&Ys x.day 0 131072
def ZO (l:List Pl):Int:=JAE l.length 60 (l.all JAH) (Yr (l.map Pl.num))
def JV (s:Bits):Nat:=s.count true
theorem Zp (a b:Bits):JV (a++b)=JV a+JV b:=List.count_append ..
def YC (x:Pl)(last:Int):Bits:=YS (x.num-last).toNat++(JX 3 x.cls.toNat++JX 18 x.day.toNat)
def ZL (s:Bits):Bool:=JV s%2==1
def Qd (x:Pl)(last:Int):Bits:=YC x last++[ZL (YC x last)]
def QB:Int→List Pl→Bits
 |_,[]=>[]
 |last,x::l=>Qd x last++QB x.num l
def J3 (l:List Pl):Bits:=JX 8 l.length++QB 0 l
def Q2 (s:Bits):Bits:=s++List.replicate ((8-s.length%8)%8) false
def JB8 (s:Bits):UInt8:=UInt8.ofNat (J8 s)
def Z5:Nat→Bits→Bs
 |0,_=>[]
 |k+1,s=>JB8 (s.take 8)::Z5 k (s.drop 8)
def pack (s:Bits):Bs:=Z5 (s.length / 8) s
def JFs (l:List Pl):Bs:=pack (Q2 (J3 l))
def Y0 (l:List Pl):Bs:=if ZO l=0 then JFs l else []
def Q0 (b:Bs):Bits:=(b.map fun c=>JX 8 c.toNat).flatten
theorem JGE (b:Bs):(Q0 b).length=8*b.length:=by
 induction b with
 |nil=>rfl
 |cons c b ih=>simp only [Q0,List.map_cons,List.flatten_cons,List.length_append,Yd,List.length_cons] at ih ⊢;omega
theorem JOp:∀(k:Nat) (s:Bits),s.length=8*k→Q0 (Z5 k s)=s
 |0,s,h=>by
  have:s=[]:=List.eq_nil_of_length_eq_zero (by omega)
  subst this;rfl
 |k+1,s,h=>by
  have h8:(s.take 8).length=8:=by rw [List.length_take];omega
  have ih:=JOp k (s.drop 8) (by rw [List.length_drop];omega)
  unfold Z5
  show JX 8 (JB8 (s.take 8)).toNat++Q0 (Z5 k (s.drop 8))=s
  rw [ih]
  have hv:=JBX (s.take 8)
  rw [h8] at hv
  have:(JB8 (s.take 8)).toNat=J8 (s.take 8):=JFl (by omega)
  have h2:=JMu (s.take 8)
  rw [h8] at h2
  rw [this,h2,List.take_append_drop]
theorem JJg:∀(b:Bs),Z5 b.length (Q0 b)=b
 |[]=>rfl
 |c::b=>by
  show Z5 (b.length+1) (JX 8 c.toNat++Q0 b)=_
  unfold Z5
  rw [List.take_left' (Yd 8 _),List.drop_left' (Yd 8 _),JJg b]
  congr 1
  unfold JB8
  have:=c.toNat_lt
  rw [JAq 8 _ (by omega)]
  simp
theorem JM9 (s:Bits):∃k,(Q2 s).length=8*k:=by
 refine ⟨(Q2 s).length / 8,?_⟩
 unfold Q2
 rw [List.length_append,List.length_replicate]
 omega
theorem JOo (s:Bits):Q0 (pack (Q2 s))=Q2 s:=by
 obtain ⟨k,hk⟩:=JM9 s
 unfold pack
 rw [hk,show 8*k / 8=k by omega]
 exact JOp k _ hk
theorem JVZ {a b:Bs}(h:Q0 a=Q0 b):a=b:=by
 have hl:=congrArg List.length h
 rw [JGE,JGE] at hl
 rw [←JJg a,←JJg b,h,show a.length=b.length by omega]
theorem JTK {s:Bits}{b:Bs}(h:Q2 s=Q0 b):pack (Q2 s)=b:=JVZ (by rw [JOo,h])
def takeB (k:Nat)(s:Bits):Option (Nat × Bits):=if s.length<k then none else some (J8 (s.take k),s.drop k)
theorem JGC {a r:Bits}{k:Nat}(h:a.length=k):takeB k (a++r)=some (J8 a,r):=by
 unfold takeB
 rw [if_neg (by rw [List.length_append];omega),List.take_left' h,List.drop_left' h]
theorem JBW {k n:Nat}{s r:Bits}(h:takeB k s=some (n,r)):s=JX k n++r∧n<2^k:=by
 unfold takeB at h
 split at h
 ·cases h
 ·next hl=>
  cases h
  have hk:(s.take k).length=k:=by rw [List.length_take];omega
  have h1:=JMu (s.take k)
  have h2:=JBX (s.take k)
  rw [hk] at h1 h2
  rw [h1,List.take_append_drop]
  exact ⟨rfl,h2⟩
def gz:Nat→Bits→Option (Nat × Bits)
 |_,[]=>none
 |_,true::s=>some (0,s)
 |0,false::_=>none
 |f+1,false::s=>(gz f s).map fun p=>(p.1+1,p.2)
def JA7 (last:Int)(s:Bits):Option (Pl × Bits):=
 (gz 16 s).bind fun p=>(takeB p.1 p.2).bind fun q=>(takeB 3 q.2).bind fun c=>(takeB 18 c.2).bind fun d=>(takeB 1 d.2).bind fun e=>
  if JV (s.take (s.length-e.2.length))%2=0 then some (⟨last+((2^p.1+q.1:Nat):Int),c.1,d.1⟩,e.2) else none
def JA8:Nat→Int→Bits→Option (List Pl × Bits)
 |0,_,s=>some ([],s)
 |n+1,last,s=>(JA7 last s).bind fun p=>(JA8 n p.1.num p.2).bind fun q=>some (p.1::q.1,q.2)
def ZN (b:Bs):Option (List Pl):=(takeB 8 (Q0 b)).bind fun p=>(JA8 p.1 0 p.2).bind fun q=>
 if q.2.length<8∧ZO q.1=0∧JV q.2=0 then some q.1 else none
theorem JMP:∀(z f:Nat) (s:Bits),z≤f→gz f (List.replicate z false++true::s)=some (z,s)
 |0,f,s,_=>by cases f<;>rfl
 |z+1,0,s,h=>by omega
 |z+1,f+1,s,h=>by rw [List.replicate_succ,List.cons_append,gz,JMP z f s (by omega)];rfl
theorem JHQ:∀(f:Nat) (s:Bits) (z:Nat) (r:Bits),gz f s=some (z,r)→s=List.replicate z false++true::r∧z≤f
 |f,[],z,r,h=>by cases f<;>cases h
 |f,true::s,z,r,h=>by
  have:gz f (true::s)=some (0,s):=by cases f<;>rfl
  rw [this] at h;cases h;exact ⟨rfl,Nat.zero_le _⟩
 |0,false::s,z,r,h=>by cases h
 |f+1,false::s,z,r,h=>by
  rw [gz] at h
  obtain ⟨⟨z',r'⟩,h1,h2⟩:=Option.map_eq_some_iff.1 h
  cases h2
  obtain ⟨h3,h4⟩:=JHQ f s z' r' h1
  exact ⟨by rw [h3,List.replicate_succ];rfl,by omega⟩
def fits (x:Pl)(last:Int):Prop:=(1≤x.num-last∧x.num-last≤65535)∧(0≤x.cls∧x.cls≤7)∧0≤x.day∧x.day≤131072
theorem JMz (s:Bits):JV (s++[ZL s])%2=0:=by
 rw [Zp]
 unfold ZL
 have:JV [JV s%2==1]=JV s%2:=by
  rcases Nat.mod_two_eq_zero_or_one (JV s) with h|h<;>rw [h]<;>rfl
 rw [this];omega
theorem JTb (x:Pl)(last:Int)(h:fits x last):(⟨last+(((x.num-last).toNat:Nat):Int),((x.cls.toNat:Nat):Int),((x.day.toNat:Nat):Int)⟩:Pl)=x:=by
 obtain ⟨h1,h2,h3⟩:=h
 obtain ⟨a,b,c⟩:=x
 simp only at h1 h2 h3 ⊢
 rw [Pl.mk.injEq];omega
theorem JTa {x:Pl}{last:Int}(h:fits x last)(r:Bits):JA7 last (Qd x last++r)=some (x,r):=by
 obtain ⟨h1,h2,h3⟩:=h
 have hn:1≤(x.num-last).toNat:=by omega
 obtain ⟨b1,b2,b3⟩:=JCe (x.num-last).toNat
 have bk:=JED (n:=(x.num-last).toNat) (k:=16) (by omega) (by omega)
 have e:Qd x last++r=List.replicate (bl (x.num-last).toNat-1) false++true::(JX (bl (x.num-last).toNat-1) (x.num-last).toNat++(JX 3 x.cls.toNat++(JX 18 x.day.toNat++([ZL (YC x last)]++r)))):=by
  unfold Qd
  rw [show YC x last++[ZL (YC x last)]++r=YC x last++([ZL (YC x last)]++r) by simp]
  generalize [ZL (YC x last)]++r=q
  unfold YC
  rw [JHM hn];simp
 unfold JA7
 rw [e,JMP _ _ _ (by omega)]
 simp only [Option.bind_some]
 rw [JGC (Yd _ _)]
 simp only [Option.bind_some]
 rw [JGC (Yd _ _)]
 simp only [Option.bind_some]
 rw [JGC (Yd _ _)]
 simp only [Option.bind_some]
 rw [JGC (k:=1) (a:=[ZL (YC x last)]) rfl]
 simp only [Option.bind_some]
 rw [←e,show (Qd x last++r).take ((Qd x last++r).length-r.length)=Qd x last by rw [List.length_append,Nat.add_sub_cancel,List.take_left]]
 unfold Qd
 rw [if_pos (JMz _)]
 have hv:2^(bl (x.num-last).toNat-1)+J8 (JX (bl (x.num-last).toNat-1) (x.num-last).toNat)=(x.num-last).toNat:=by
  rw [←JHZ,JAq _ _ (Nat.mod_lt _ (Nat.two_pow_pos _))]
  have hq:(x.num-last).toNat / 2^(bl (x.num-last).toNat-1)=1:=by
   have:=b3 hn
   have h4:(x.num-last).toNat<2*2^(bl (x.num-last).toNat-1):=by
    rw [Nat.mul_comm,←Nat.pow_succ,show (bl (x.num-last).toNat-1).succ=bl (x.num-last).toNat by omega];exact b2
   exact Nat.div_eq_of_lt_le (by omega) (by omega)
  have:=Nat.div_add_mod (x.num-last).toNat (2^(bl (x.num-last).toNat-1))
  rw [hq] at this;omega
 rw [hv,JAq 3 _ (by omega),JAq 18 _ (by omega),JTb x last ⟨h1,h2,h3⟩]
theorem JJl {last:Int}{s r:Bits}{x:Pl}(h:JA7 last s=some (x,r)):s=Qd x last++r:=by
 unfold JA7 at h
 obtain ⟨⟨z,s1⟩,h1,h⟩:=Option.bind_eq_some_iff.1 h
 obtain ⟨⟨v,s2⟩,h2,h⟩:=Option.bind_eq_some_iff.1 h
 obtain ⟨⟨c,s3⟩,h3,h⟩:=Option.bind_eq_some_iff.1 h
 obtain ⟨⟨d,s4⟩,h4,h⟩:=Option.bind_eq_some_iff.1 h
 obtain ⟨⟨p,s5⟩,h5,h⟩:=Option.bind_eq_some_iff.1 h
 simp only at h2 h3 h4 h5 h
 split at h
 ·next hp=>
  simp only [Option.some.injEq,Prod.mk.injEq] at h
  obtain ⟨hx,hr⟩:=h
  subst hr
  obtain ⟨e1,k1⟩:=JHQ _ _ _ _ h1
  obtain ⟨e2,k2⟩:=JBW h2
  obtain ⟨e3,k3⟩:=JBW h3
  obtain ⟨e4,k4⟩:=JBW h4
  obtain ⟨e5,k5⟩:=JBW h5
  have hn:(x.num-last).toNat=2^z+v:=by rw [←hx];simp only;omega
  have hc:x.cls.toNat=c:=by rw [←hx];simp
  have hd:x.day.toNat=d:=by rw [←hx];simp
  have hbl:bl (2^z+v)=z+1:=JK5 (by omega) (by rw [Nat.pow_succ];omega)
  have hg:YS (2^z+v)=List.replicate z false++true::JX z v:=by
   rw [JHM (by have:=Nat.two_pow_pos z;omega),hbl,Nat.add_sub_cancel]
   congr 2
   rw [←JHZ z (2^z+v),Nat.add_mod_left,Nat.mod_eq_of_lt k2]
  have hb:s=YC x last++(JX 1 p++s5):=by
   unfold YC
   rw [hn,hc,hd,hg,e1,e2,e3,e4,e5];simp
  have hs:s.take (s.length-s5.length)=YC x last++JX 1 p:=by
   rw [hb,←List.append_assoc,List.length_append,Nat.add_sub_cancel,List.take_left]
  rw [hs] at hp
  have hpar:JX 1 p=[ZL (YC x last)]:=by
   have:JX 1 p=[p%2==1]:=rfl
   rw [this] at hp ⊢
   rw [Zp] at hp
   unfold ZL
   congr 1
   have ho:JV [p%2==1]=p%2:=by rcases Nat.mod_two_eq_zero_or_one p with h|h<;>rw [h]<;>rfl
   rw [ho] at hp
   rcases Nat.mod_two_eq_zero_or_one p with h6|h6<;>rcases Nat.mod_two_eq_zero_or_one (JV (YC x last)) with h7|h7<;>rw [h6,h7]<;>omega
  unfold Qd
  rw [hb,hpar];simp
 ·cases h
theorem JNO:∀(n:Nat) (last:Int) (s r:Bits) (l:List Pl),JA8 n last s=some (l,r)→s=QB last l++r∧l.length=n
 |0,last,s,r,l,h=>by cases h;exact ⟨rfl,rfl⟩
 |n+1,last,s,r,l,h=>by
  unfold JA8 at h
  obtain ⟨⟨x,s1⟩,h1,h⟩:=Option.bind_eq_some_iff.1 h
  obtain ⟨⟨l1,r1⟩,h2,h⟩:=Option.bind_eq_some_iff.1 h
  simp only [Option.some.injEq,Prod.mk.injEq] at h
  obtain ⟨rfl,rfl⟩:=h
  obtain ⟨e,hl⟩:=JNO n x.num s1 r1 l1 h2
  refine ⟨?_,by simp [hl]⟩
  rw [JJl h1,e,QB,List.append_assoc]
def chain:Int→List Pl→Prop
 |_,[]=>True
 |last,x::l=>fits x last∧chain x.num l
theorem JLh:∀(l:List Pl) (last:Int),0≤last→l.all JAH=true→Yr (last::l.map Pl.num)=true→chain last l
 |[],_,_,_,_=>trivial
 |x::l,last,h0,hok,hr=>by
  simp only [List.all_cons,Bool.and_eq_true] at hok
  have hx:=hok.1
  unfold JAH at hx
  simp only [Bool.and_eq_true,ZC] at hx
  simp only [List.map_cons,Yr,Bool.and_eq_true,decide_eq_true_eq] at hr
  exact ⟨⟨by omega,by omega,by omega⟩,JLh l x.num (by omega) hok.2 hr.2⟩
theorem JGx {l:List Pl}(h:ZO l=0):chain 0 l∧l.length≤60:=by
 obtain ⟨h1,h2,h3⟩:=JAn h
 refine ⟨JLh l 0 (by omega) h2 ?_,h1⟩
 cases l with
 |nil=>rfl
 |cons x l=>
  simp only [List.all_cons,Bool.and_eq_true] at h2
  have hx:=h2.1
  unfold JAH at hx
  simp only [Bool.and_eq_true,ZC] at hx
  simp only [List.map_cons,Yr,Bool.and_eq_true,decide_eq_true_eq] at h3 ⊢
  exact ⟨by omega,h3⟩
theorem JNM:∀(l:List Pl) (last:Int) (r:Bits),chain last l→JA8 l.length last (QB last l++r)=some (l,r)
 |[],_,_,_=>rfl
 |x::l,last,r,h=>by
  rw [List.length_cons,JA8,QB,List.append_assoc,JTa h.1]
  simp only [Option.bind_some]
  rw [JNM l x.num r h.2];rfl
theorem JVa (l:List Pl):Q0 (JFs l)=JX 8 l.length++(QB 0 l++List.replicate ((8-(J3 l).length%8)%8) false):=by
 unfold JFs
 rw [JOo]
 unfold Q2 J3
 rw [List.append_assoc]
theorem JJY (n:Nat):JV (List.replicate n false)=0:=by
 unfold JV;rw [List.count_replicate];simp
theorem JSf {s:Bits}(h:JV s=0):s=List.replicate s.length false:=by
 induction s with
 |nil=>rfl
 |cons b s ih=>
  unfold JV at h ih
  cases b with
  |true=>simp at h
  |false=>
   rw [List.count_cons] at h
   simp at h
   rw [List.length_cons,List.replicate_succ]
   congr 1
   exact ih h
theorem JTT {b:Bs}{l:List Pl}:ZN b=some l↔ZO l=0∧JFs l=b:=by
 constructor
 ·intro h
  unfold ZN at h
  obtain ⟨⟨n,s⟩,h1,h⟩:=Option.bind_eq_some_iff.1 h
  obtain ⟨⟨l1,r⟩,h2,h⟩:=Option.bind_eq_some_iff.1 h
  simp only at h2 h
  split at h
  ·next hc=>
   cases h
   obtain ⟨hr,he,ho⟩:=hc
   obtain ⟨e1,_⟩:=JBW h1
   obtain ⟨e2,hl⟩:=JNO _ _ _ _ _ h2
   refine ⟨he,JTK ?_⟩
   have hu:Q0 b=J3 l++r:=by rw [e1,e2];unfold J3;rw [hl,List.append_assoc]
   rw [hu]
   unfold Q2
   congr 1
   have h8:=JGE b
   rw [hu,List.length_append] at h8
   rw [show (8-(J3 l).length%8)%8=r.length by omega]
   exact (JSf ho).symm
  ·cases h
 ·rintro ⟨h1,rfl⟩
  obtain ⟨hc,hl⟩:=JGx h1
  unfold ZN
  rw [JVa,JGC (Yd _ _)]
  simp only [Option.bind_some]
  rw [JAq 8 _ (by omega),JNM l 0 _ hc]
  simp only [Option.bind_some]
  rw [if_pos ⟨by rw [List.length_replicate];omega,h1,JJY _⟩]
end Go.Bk
namespace Go.Mw
open Go.Proofs Go.Bk
theorem Jf:Tryz.prog.follows .mixedOrders=true:=by kernel_rfl
abbrev D.i (n:Int):D:=.raw (.int .i64 n)
@[go_sem] def Qy (n:Int):List D:=[.i n]
abbrev Qz (l:List Int):D:=.sl 1 (l.map Qy)
@[go_sem] def encStr (l:Bs):List D:=[.raw (.string (bs l))]
abbrev JEl (l:List Bs):D:=.sl 1 (l.map encStr)
@[go_sem] def JFD (t:Tr):List D:=[.i t.flow,.i t.pour,.i t.shown]
abbrev JVP (l:List Tr):D:=.sl 3 (l.map JFD)
abbrev trV (t:Tr):AV:=.val true ((JFD t).map .d)
@[go_sem] def JBn (x:Sh):List D:=[.i x.meter,JVP x.tries]
abbrev Z6 (l:List Sh):D:=.sl 2 (l.map JBn)
abbrev shV (x:Sh):AV:=.val true ((JBn x).map .d)
@[go_sem] def Y7 (x:Pl):List D:=[.i x.num,.i x.cls,.i x.day]
abbrev Yu (l:List Pl):D:=.sl 3 (l.map Y7)
abbrev plV (x:Pl):AV:=.val true ((Y7 x).map .d)
@[go_sem] def Yx (x:Pg):List D:=[.i x.house,Qz x.reads]
abbrev Yt (l:List Pg):D:=.sl 2 (l.map Yx)
abbrev pgV (x:Pg):AV:=.val true ((Yx x).map .d)
abbrev Y5 (l:Bs):D:=.sl 1 (Jx l)
def JIT (z:Bool):AL:=bif z then .ptr 990 0 else .d (.raw (.pointer none))
def JIb (l:Bs):AL:=if l=[] then .d (.raw (.slice none 0 0)) else .own 901 0 l.length l.length
def JHj (z:Bool)(l:Bs):List (Nat × AO):=[(990,.cells [JIT z,JIb l]),(901,.arr 5 1 (Jx l))]
theorem JLA:JIb []=.d (.raw (.slice none 0 0)):=rfl
theorem JIc {l:Bs}(h:l≠[]):JIb l=.own 901 0 l.length l.length:=if_neg h
theorem JKr:JIT true=.ptr 990 0:=rfl
theorem JKq:JIT false=.d (.raw (.pointer none)):=rfl
theorem JMr (v:Value)(w:World):(callFunc 179 #[v]).run Tryz.prog w=.ok (.value v) w:=by
 rw [run_callFunc_extern Tryz.func179 JJ JJ JJ (e:=Extern.AbiNoEscape.same) JJ,Lib.run_noEscape];rfl
end Go.Mw
namespace Go.Mw
open Go.Proofs
open Go.Bk
theorem JLS (z:Bool)(l:Bs):Qq Tryz.prog 146 [.leaf (.ptr 990 0)] (JHj z l) (.ret (.tup []) (JHj true l)):=by
 unfold JHj
 rcases Bool.eq_false_or_eq_true z with hz|hz<;>subst hz<;>by_cases hl:l=[]
 ·skip
  subst hl
  rw [JLA]
  refine Js Jf Tryz.func146 rfl V97 JJ rfl ?_
  refine JB.reg ?_
  iterate 5 (refine JA.o1 Ze ?_)
  refine JA.nil ?_
  refine JB.cnd Ze (fun hb6=>?_) (fun hb6=>?_)
  ·exact absurd hb6 (by simp)
  ·skip
   refine JB.reg ?_
   iterate 5 (refine JA.o1 Ze ?_)
   refine JA.val (JN5 Tryz.underlying86 JJ JD JD JD) rfl JD ?_ 
   refine JA.nil ?_
   refine JB.cnd Ze (fun hb19=>?_) (fun hb19=>?_)
   ·exact absurd hb19 (by simp)
   ·skip
    exact Ends.fin0 [990,901] (rs:=[]) rfl Ze JGM
 ·skip
  have hb:=JIc hl
  rw [hb]
  refine Js Jf Tryz.func146 rfl V97 JJ rfl ?_
  refine JB.reg ?_
  iterate 5 (refine JA.o1 Ze ?_)
  refine JA.nil ?_
  refine JB.cnd Ze (fun hb6=>?_) (fun hb6=>?_)
  ·exact absurd hb6 (by simp)
  ·skip
   refine JB.reg ?_
   iterate 5 (refine JA.o1 Ze ?_)
   refine JA.val (JN5 Tryz.underlying86 JJ JD JD JD) rfl JD ?_ 
   refine JA.nil ?_
   refine JB.cnd Ze (fun hb19=>?_) (fun hb19=>?_)
   ·exact absurd hb19 (by simp)
   ·skip
    exact Ends.fin0 [990,901] (rs:=[]) rfl Ze JGM
 ·skip
  subst hl
  rw [JLA]
  refine Js Jf Tryz.func146 rfl V97 JJ rfl ?_
  refine JB.reg ?_
  iterate 5 (refine JA.o1 Ze ?_)
  refine JA.nil ?_
  refine JB.cnd Ze (fun hb6=>?_) (fun hb6=>?_)
  ·skip
   refine JB.reg1 ?_
   iterate 2 (refine JA.o1 Ze ?_)
   refine JA.val (JN9 Tryz.underlying86 Tryz.underlying250 (k:=2) JJ (by decide) JD JD (by simp)) rfl JD ?_ 
   refine JA.val (JN8 JMr JD JD) rfl JD ?_ 
   refine JA.val (JN6 Tryz.underlying250 Tryz.underlying86 JJ JD JD (T:=90) rfl JJ) rfl JD ?_ 
   iterate 3 (refine JA.o1 Ze ?_)
   refine JA.nil ?_
   exact Ends.fin0 [990,901] (rs:=[]) rfl Ze JGM
  ·exact absurd hb6 (by simp)
 ·skip
  have hb:=JIc hl
  rw [hb]
  refine Js Jf Tryz.func146 rfl V97 JJ rfl ?_
  refine JB.reg ?_
  iterate 5 (refine JA.o1 Ze ?_)
  refine JA.nil ?_
  refine JB.cnd Ze (fun hb6=>?_) (fun hb6=>?_)
  ·skip
   refine JB.reg1 ?_
   iterate 2 (refine JA.o1 Ze ?_)
   refine JA.val (JN9 Tryz.underlying86 Tryz.underlying250 (k:=2) JJ (by decide) JD JD (by simp)) rfl JD ?_ 
   refine JA.val (JN8 JMr JD JD) rfl JD ?_ 
   refine JA.val (JN6 Tryz.underlying250 Tryz.underlying86 JJ JD JD (T:=90) rfl JJ) rfl JD ?_ 
   iterate 3 (refine JA.o1 Ze ?_)
   refine JA.nil ?_
   exact Ends.fin0 [990,901] (rs:=[]) rfl Ze JGM
  ·exact absurd hb6 (by simp)
end Go.Mw
namespace Go.Mw
open Go.Proofs
open Go.Bk
theorem JQ3:Qq Tryz.prog 146 [.leaf (.ptr 990 0)] [(990,.cells [.d (.raw (.pointer none)),.d (.raw (.slice none 0 0))]),(901,.arr 5 1 [])] (.ret (.tup []) [(990,.cells [.ptr 990 0,.d (.raw (.slice none 0 0))]),(901,.arr 5 1 [])]):=JLS false []
theorem JLf {l:Bs}(h:l≠[]):Qq Tryz.prog 146 [.leaf (.ptr 990 0)] [(990,.cells [.ptr 990 0,.own 901 0 l.length l.length]),(901,.arr 5 1 (Jx l))] (.ret (.tup []) [(990,.cells [.ptr 990 0,.own 901 0 l.length l.length]),(901,.arr 5 1 (Jx l))]):=by
 have:=JLS true l
 unfold JHj at this
 rw [JIc h] at this
 exact this
theorem JB7:Jx []=[]:=rfl
theorem JP9 (l s:Bs)(hls:l++s≠[])(hlen:l.length+s.length≤140737488355328):Qq Tryz.prog 103 [.leaf (.ptr 990 0),.str s] [(990,.cells (YJ 990 901 l)),(901,.arr 5 1 (Jx l))] (.ret (.tup [(false,[.d (.i s.length)]),(false,[.d (.raw .nilIface)])]) [(990,.cells (YJ 990 901 (l++s))),(901,.arr 5 1 (Jx (l++s)))]):=by
 by_cases hl:l=[]
 ·skip
  subst hl
  have hs:s≠[]:=hls
  rw [JHi,JEY hls]
  refine Js Jf Tryz.func103 rfl (by simp only [List.length_cons,List.length_nil,Tryz.ntmps103];omega) JJ rfl ?_
  refine JB.reg ?_
  iterate 2 (refine JA.o ?_)
  refine JA.nil (JB.reg ?_)
  refine JA.o ?_
  refine JA.lendG [(990,990),(901,901)] JD (JQ3) JY (.inl ⟨[],by simp only [go_sem]<;>rfl,rfl⟩) JD Y1 rfl (by decide) YB ZT V39 Zc JD ?_
  refine JA.nil (JB.reg ?_)
  iterate 6 (refine JA.o ?_)
  first|refine JA.appS 901 l s V83 JD JD Tryz.underlying53 Tryz.underlying9 (i:=Tryz.t5) JJ ⟨by kernel_rfl,by kernel_rfl,by kernel_rfl⟩ hlen JD ?_|refine JA.appS 901 [] s V83 JD JD Tryz.underlying53 Tryz.underlying9 (i:=Tryz.t5) JJ ⟨by kernel_rfl,by kernel_rfl,by kernel_rfl⟩ hlen JD ?_
  iterate 3 (refine JA.o ?_)
  refine JA.nil (JB.reg ?_)
  iterate 4 (refine JA.o ?_)
  refine JA.nil ?_
  exact Ends.fin [990,901] (rs:=[.tmp 4,.tmp 5]) rfl JD ZB
 ·skip
  rw [JEY hl,JEY hls]
  refine Js Jf Tryz.func103 rfl (by simp only [List.length_cons,List.length_nil,Tryz.ntmps103];omega) JJ rfl ?_
  refine JB.reg ?_
  iterate 2 (refine JA.o ?_)
  refine JA.nil (JB.reg ?_)
  refine JA.o ?_
  refine JA.lendG [(990,990),(901,901)] JD (JLf hl) JY (.inl ⟨[],by simp only [go_sem]<;>rfl,rfl⟩) JD Y1 rfl (by decide) YB ZT V39 Zc JD ?_
  refine JA.nil (JB.reg ?_)
  iterate 6 (refine JA.o ?_)
  first|refine JA.appS 901 l s V83 JD JD Tryz.underlying53 Tryz.underlying9 (i:=Tryz.t5) JJ ⟨by kernel_rfl,by kernel_rfl,by kernel_rfl⟩ hlen JD ?_|refine JA.appS 901 [] s V83 JD JD Tryz.underlying53 Tryz.underlying9 (i:=Tryz.t5) JJ ⟨by kernel_rfl,by kernel_rfl,by kernel_rfl⟩ hlen JD ?_
  iterate 3 (refine JA.o ?_)
  refine JA.nil (JB.reg ?_)
  iterate 4 (refine JA.o ?_)
  refine JA.nil ?_
  exact Ends.fin [990,901] (rs:=[.tmp 4,.tmp 5]) rfl JD ZB
theorem JP7 (l:Bs)(c:UInt8)(hl:l≠[])(hlen:l.length+1≤140737488355328):Qq Tryz.prog 104 [.leaf (.ptr 990 0),.raw (.int .u8 c.toNat)] [(990,.cells (YJ 990 901 l)),(901,.arr 5 1 (Jx l))] (.ret (.raw .nilIface) [(990,.cells (YJ 990 901 (l++[c]))),(901,.arr 5 1 (Jx (l++[c])))]):=by
 have hne:l++[c]≠[]:=by simp
 rw [JEY hl,JEY hne]
 have hbl:=ZH l
 refine Js Jf Tryz.func104 rfl (by simp only [List.length_cons,List.length_nil,Tryz.ntmps104];omega) JJ rfl ?_
 refine JB.reg ?_
 have X:=Fx.mk hbl
 refine JA.o1 JC ?_
 refine JA.nil (JB.reg ?_)
 refine JA.o1 JC ?_
 refine JA.lendG [(990,990),(901,901)] JD (JLf hl) JY (.inl ⟨[],by simp only [go_sem]<;>rfl,rfl⟩) JD Y1 rfl (by decide) YB ZT V39 Zc JD ?_
 refine JA.nil (JB.reg ?_)
 iterate 7 (refine JA.o1 JC ?_)
 refine JA.o1 V4 ?_
 iterate 3 (refine JA.o1 JC ?_)
 refine JA.nil (JB.reg ?_)
 refine JA.o1 JC ?_
 refine JA.nil ?_
 exact Ends.fin [990,901] (rs:=[.tmp 4]) rfl JC (by simp only [go_sem,X.h]<;>first|rfl|((repeat' (first|with_reducible_and_instances rfl|refine Q8 ?_ ?_ ?_|refine Q7 ?_|refine YL ?_|refine Q9 ?_ ?_|refine Q3 ?_|refine Q4 ?_|refine YN ?_|refine Q6 ?_ ?_|refine YI ?_ ?_|refine YK ?_|refine YF ?_|(refine Q5 ?_;omega)));all_goals (first|omega|(simp [Jx];done))))
theorem JGr (l:Bs)(ws:List Bs)(hw:blanks ws≠[])(hn:ws.length≤1000000)(hlen:l.length+(blanks ws).length+1≤140737488355328):Qq Tryz.prog 49 [.leaf (.ptr 990 0),.leaf (.d (JEl ws))] [(990,.cells (YJ 990 901 l)),(901,.arr 5 1 (Jx l))] (.ret (.tup []) [(990,.cells (YJ 990 901 (l++blanks ws++[10]))),(901,.arr 5 1 (Jx (l++blanks ws++[10])))]):=by
 have hj:=JI5 ws
 have hne:l++blanks ws≠[]:=by simp [hw]
 have hl2:(l++blanks ws).length=l.length+(blanks ws).length:=List.length_append
 refine Js Jf Tryz.func49 rfl (by simp only [List.length_cons,List.length_nil,Tryz.ntmps49];omega) JJ rfl ?_
 refine JB.opk 8 ?_
 have X:=Fx.mk hj
 iterate 4 (refine JF.o1 JC ?_)
 refine JF.cal (JLK ws [32] (by omega) (by rw [hj];omega)) JY JC V30 (YX) JC JD JD ?_
 refine JF.lendG (ds:=[]) [(990,990),(901,901)] JD (JP9 l (blanks ws) hne (by omega)) JY JD JD V27 rfl (by decide) JDB ZT V37 rfl JD JD JD ?_
 refine JF.nil (QO.fin QZ QZ ?_)
 refine JB.reg1 ?_
 iterate 3 (refine JA.o1 JC ?_)
 refine JA.lendG [(990,990),(901,901)] JD (JP7 (l++blanks ws) 10 hne (by omega)) JY (.inl ⟨[],by simp only [go_sem]<;>rfl,rfl⟩) JD V5 rfl (by decide) JDB ZT V37 Zc JD ?_
 refine JA.nil ?_
 exact Ends.fin0 [990,901] (rs:=[]) rfl JC Qs
end Go.Mw
namespace Go.Bk
open Go Go.Mw
theorem JGj (l:Bs)(p:Nat)(h:p<l.length):(bs l)[p]'(by rw [Z2];exact h)=l[p]:=by
 have:=JK9 l p
 rw [getElem?_pos (bs l) p (by rw [Z2];exact h),List.getElem?_eq_getElem h] at this
 exact Option.some.inj this
theorem JFB (l:Bs)(p:Nat)(h:p<l.length)(ha:l[p].toNat<128):Utf8.decode (bs l) p=(l[p].toNat,1):=by
 have:=decode_ascii (bs l) p (by rw [Z2];exact h) (by rw [JGj l p h];exact ha)
 rw [JGj l p h] at this
 exact this
theorem JRF (l:Bs)(p k:Nat)(h:p+k<l.length)(hc:((bs l).get! (p+k)).toNat / 64=2):128≤(l[p+k]).toNat:=by
 have e:(bs l).get! (p+k)=l[p+k]:=by
  have h1:(bs l).get! (p+k)=(bs l)[p+k]'(by rw [Z2];exact h):=by
   rw [ByteArray.get!]
   show (bs l).data[p+k]! = _
   rw [getElem!_pos]
   rfl
  rw [h1,JGj l _ h]
 rw [e] at hc
 omega
theorem JLt (l:Bs)(p:Nat)(h:p<l.length)(ha:128≤l[p].toNat):128≤(Utf8.decode (bs l) p).1∧1≤(Utf8.decode (bs l) p).2∧p+(Utf8.decode (bs l) p).2≤l.length ∧
  ∀i (hi:i<l.length),p≤i→i<p+(Utf8.decode (bs l) p).2→128≤l[i].toNat:=by
 obtain ⟨h1,h2⟩:=decode_high (bs l) p (by rw [Z2];exact h) (by rw [JGj l p h];exact ha)
 refine ⟨h1,h2,?_⟩
 have hone:∀i (hi:i<l.length),p≤i→i<p+1→128≤l[i].toNat:=fun i hi h3 h4=>by
  have:i=p:=by omega
  subst this;exact ha
 have c1:∀k,p+k<l.length→((bs l).get! (p+k)).toNat / 64=2→∀i (hi:i<l.length),i=p+k→128≤l[i].toNat:=fun k hk hc i hi e=>by subst e;exact JRF l p k hk hc
 unfold Utf8.decode
 simp only [Z2,Bool.and_eq_true,decide_eq_true_eq,beq_iff_eq]
 split
 ·exact ⟨by simp;omega,hone⟩
 ·split
  ·rename_i hh
   have e1:=c1 1 hh.2.1 hh.2.2
   split
   ·refine ⟨by simp;omega,fun i hi h3 h4=>?_⟩
    simp at h4
    by_cases e:i=p
    ·exact hone i hi (by omega) (by omega)
    ·exact e1 i hi (by omega)
   ·exact ⟨by simp;omega,hone⟩
  ·split
   ·rename_i hh
    have e1:=c1 1 hh.1.2.1 hh.1.2.2
    have e2:=c1 2 hh.2.1 hh.2.2
    split
    ·refine ⟨by simp;omega,fun i hi h3 h4=>?_⟩
     simp at h4
     by_cases e:i=p
     ·exact hone i hi (by omega) (by omega)
     ·by_cases e':i=p+1
      ·exact e1 i hi e'
      ·exact e2 i hi (by omega)
    ·exact ⟨by simp;omega,hone⟩
   ·split
    ·rename_i hh
     have e1:=c1 1 hh.1.1.2.1 hh.1.1.2.2
     have e2:=c1 2 hh.1.2.1 hh.1.2.2
     have e3:=c1 3 hh.2.1 hh.2.2
     split
     ·refine ⟨by simp;omega,fun i hi h3 h4=>?_⟩
      simp at h4
      by_cases e:i=p
      ·exact hone i hi (by omega) (by omega)
      ·by_cases e':i=p+1
       ·exact e1 i hi e'
       ·by_cases e'':i=p+2
        ·exact e2 i hi e''
        ·exact e3 i hi (by omega)
     ·exact ⟨by simp;omega,hone⟩
    ·exact ⟨by simp;omega,hone⟩
theorem JN3 {l:Bs}{p:Nat}(h:p<l.length)(h1:48≤(Utf8.decode (bs l) p).1)(h2:(Utf8.decode (bs l) p).1≤57):(Utf8.decode (bs l) p).2=1∧l[p].toNat=(Utf8.decode (bs l) p).1∧YU l[p]=true:=by
 by_cases ha:l[p].toNat<128
 ·have:=JFB l p h ha
  rw [this] at h1 h2 ⊢
  exact ⟨rfl,rfl,JDR.2 ⟨h1,h2⟩⟩
 ·have:=(JLt l p h (by omega)).1
  omega
theorem JUH {l:Bs}{p:Nat}(h:p<l.length)(hn:¬(48≤(Utf8.decode (bs l) p).1∧(Utf8.decode (bs l) p).1≤57)):1≤(Utf8.decode (bs l) p).2∧p+(Utf8.decode (bs l) p).2≤l.length∧∀i (hi:i<l.length),p≤i→i<p+(Utf8.decode (bs l) p).2→YU l[i]=false:=by
 by_cases ha:l[p].toNat<128
 ·have:=JFB l p h ha
  rw [this] at hn ⊢
  refine ⟨Nat.le_refl _,by simp;omega,fun i hi h3 h4=>?_⟩
  simp at h4
  have:i=p:=by omega
  subst this
  rw [←Bool.not_eq_true,JDR]
  exact hn
 ·obtain ⟨_,h2,h3,h4⟩:=JLt l p h (by omega)
  refine ⟨h2,h3,fun i hi h5 h6=>?_⟩
  have:=h4 i hi h5 h6
  rw [←Bool.not_eq_true,JDR]
  omega
theorem JRV (l:Bs)(p k:Nat)(h:p+k≤l.length)(hn:∀i (hi:i<l.length),p≤i→i<p+k→YU l[i]=false):ZI (l.take (p+k))=ZI (l.take p):=by
 induction k with
 |zero=>rfl
 |succ k ih=>
  rw [←Nat.add_assoc,List.take_add_one,List.getElem?_eq_getElem (show p+k<l.length by omega),JLy,ih (by omega) (fun i hi h1 h2=>hn i hi h1 (by omega))]
  have:=hn (p+k) (by omega) (by omega) (by omega)
  simp [ZI,dig,this]
theorem JRT (l:Bs)(p:Nat)(h:p<l.length)(hd:YU l[p]=true):ZI (l.take (p+1))=ZI (l.take p)+(l[p].toNat-48):=by
 rw [List.take_add_one,List.getElem?_eq_getElem h,JLy]
 simp [ZI,dig,hd]
end Go.Bk
namespace Go.Mw
open Go.Proofs
open Go.Bk
attribute [local go_sem] decide_true beq_self_eq_true bne_self_eq_false
def J0:Value:=.iface 172 (.agg #[.int .i64 8])
theorem JE9 (n l h:Int):Jb Tryz.prog 94 [.int n,.int l,.int h] (.bool (Ys n l h)) []:=by
 refine Js Jf Tryz.func94 rfl (by simp only [List.length_cons,List.length_nil,Tryz.ntmps94];omega) JJ rfl ?_
 refine JB.reg ?_
 refine JA.o1 JBg ?_
 refine JA.nil (JB.reg ?_)
 iterate 4 (refine JA.o1 JBg ?_)
 iterate 3 (refine JA.gop JD JBg JD ?_)
 iterate 2 (refine JA.o1 JBg ?_)
 refine JA.nil ?_
 exact Ends.fin [] (rs:=[.tmp 6]) rfl JBg (by simp only [go_sem,Ys]<;>first|rfl|exact QP)
theorem JBI (n l h:Int):Jb Tryz.prog 142 [.int n,.int l,.int h] (.bool (Ys n l h)) []:=by
 refine Js Jf Tryz.func142 rfl (by simp only [List.length_cons,List.length_nil,Tryz.ntmps142];omega) JJ rfl ?_
 refine JB.reg ?_
 refine JA.o1 JBg ?_
 refine JA.nil (JB.reg ?_)
 iterate 4 (refine JA.o1 JBg ?_)
 iterate 3 (refine JA.gop JD JBg JD ?_)
 iterate 2 (refine JA.o1 JBg ?_)
 refine JA.nil ?_
 exact Ends.fin [] (rs:=[.tmp 6]) rfl JBg (by simp only [go_sem,Ys]<;>first|rfl|exact QP)
theorem YH (b:Bool)(h:b=true):Jb Tryz.prog 55 [.bool b] (.tup []) []:=by
 subst h
 refine Js Jf Tryz.func55 rfl (by simp only [List.length_cons,List.length_nil,Tryz.ntmps55];omega) JJ rfl ?_
 refine JB.reg ?_
 iterate 2 (refine JA.o ?_)
 refine JA.nil ?_
 refine JB.cnd JD (fun hb3=>?_) (fun hb3=>?_)
 ·exact absurd hb3 (by simp)
 ·skip
  exact Ends.fin0 [] (rs:=[]) rfl JD ZB
theorem Z4 (b:Bool)(h:b=false):Qr Tryz.prog J0 55 [.bool b] []:=by
 subst h
 refine Yq Jf Tryz.func55 rfl (by simp only [List.length_cons,List.length_nil,Tryz.ntmps55];omega) JJ rfl ?_
 refine JB.reg ?_
 iterate 2 (refine JA.o ?_)
 refine JA.nil ?_
 refine JB.cnd JD (fun hb3=>?_) (fun hb3=>?_)
 ·skip
  refine JB.pan1 (pv:=J0) 2 rfl ?_
  iterate 2 (refine JA.o ?_)
  exact JA.pani (us:=[.int .i64 8]) JD rfl rfl
 ·exact absurd hb3 (by simp)
theorem JN4 (n:Nat)(h:n<10):(48:Int)+(n:Int)=((48+n:Nat):Int):=by omega
theorem JP5 (n:Nat)(hn:n≤9223372036854775807)(ih:∀m,m<n→Jb Tryz.prog 89 [.int m] (.str (Jz m)) []):Jb Tryz.prog 89 [.int n] (.str (Jz n)) []:=by
 refine Js Jf Tryz.func89 rfl (by simp only [List.length_cons,List.length_nil,Tryz.ntmps89];omega) JJ rfl ?_
 refine JB.reg ?_
 refine JA.o ?_
 refine JA.nil (JB.assocS (JB.reg ?_))
 iterate 2 (refine JA.o ?_)
 refine JA.nil ?_
 refine JB.cndS JD (fun hb4=>?_) (fun hb4=>?_)
 ·skip
  have hlt:n<10:=by have:=of_decide_eq_true hb4;omega
  have hr:=JN4 n hlt
  have hw:IntKind.i32.wrap ((48+n:Nat):Int)=((48+n:Nat):Int):=IntWalk.i32_in _ (by omega)
  have h64:IntKind.i64.wrap ((48:Int)+(n:Int))=((48+n:Nat):Int):=by rw [hr];exact IntWalk.i64_in _ (by omega)
  have ht:=JBy hlt
  refine JB.assocS (JB.reg ?_)
  have X:=((Fx.mk h64).a hw).a ht
  refine JA.o1 JC ?_
  iterate 2 (refine JA.o1 Jv ?_)
  refine JA.val (JN7 Tryz.underlying21 Tryz.underlying9 (n:=48+n) (by omega) JD) rfl JD ?_ 
  refine JA.o1 JC ?_
  refine JA.nil (JB.retS ?_)
  exact Ends.fin [] (rs:=[.tmp 2]) rfl JC Qs
 ·skip
  have hge:¬n<10:=by have:=of_decide_eq_false hb4;omega
  have hq:IntKind.i64.wrap (Int.tdiv (n:Int) 10)=((n / 10:Nat):Int):=by rw [Int.tdiv_eq_ediv_of_nonneg (by omega)];rw [IntWalk.i64_in _ (by omega)];omega
  have hm:Int.tmod (n:Int) 10=((n%10:Nat):Int):=by rw [Int.tmod_eq_emod_of_nonneg (by omega)];omega
  have hl:=Zz (n:=n / 10) (k:=20) (by omega) (by omega)
  have hr:=JN4 (n%10) (by omega)
  have hw:IntKind.i32.wrap ((48+n%10:Nat):Int)=((48+n%10:Nat):Int):=IntWalk.i32_in _ (by omega)
  have h64:IntKind.i64.wrap ((48:Int)+((n%10:Nat):Int))=((48+n%10:Nat):Int):=by rw [hr];exact IntWalk.i64_in _ (by omega)
  have ht:=JC4 hge
  refine JB.skipS (JB.reg ?_)
  have X:=((((Fx.mk hq).a hm).a h64).a hw).a ht
  refine JA.o1 JC ?_
  refine JA.o1 Jv ?_
  refine JA.c1 (ih (n / 10) (by omega)) JC JC ?_
  refine JA.o1 JC ?_
  iterate 3 (refine JA.o1 Jv ?_)
  refine JA.val (JN7 Tryz.underlying21 Tryz.underlying9 (n:=48+n%10) (by omega) JD) rfl JD ?_ 
  refine JA.o1 Jv ?_
  refine JA.o1 JC ?_
  refine JA.nil ?_
  exact Ends.fin [] (rs:=[.tmp 2]) rfl JC Qs
theorem JLN:∀(n:Nat),n≤9223372036854775807→Jb Tryz.prog 89 [.int n] (.str (Jz n)) []:=by
 intro n
 induction n using Nat.strongRecOn with
 |_ n ih=>exact fun hn=>JP5 n hn fun m hm=>ih m hm (by omega)
end Go.Mw
namespace Go.Mw
open Go.Proofs
open Go.Bk
attribute [local go_sem] decide_true beq_self_eq_true bne_self_eq_false
theorem JIf (m:Int)(h0:0≤m)(h1:m≤9223372036854775807):Jb Tryz.prog 89 [.int m] (.str (Jz m.toNat)) []:=by
 have:=JLN m.toNat (by omega)
 rwa [Int.toNat_of_nonneg h0] at this
theorem JRS (l:Bs)(k:Nat)(h:l.length≤1000000):ZI (l.take k)≤9000000:=by
 have:=JRU (l.take k)
 have:(l.take k).length≤l.length:=by rw [List.length_take];omega
 omega
end Go.Mw
namespace Go.Mw
open Go.Proofs
open Go.Bk
attribute [local go_sem] decide_true beq_self_eq_true bne_self_eq_false
theorem g64:∃g,Tryz.prog.globalNamed "internal/strconv.uint64pow10" = some g:=Option.isSome_iff_exists.1 (show (Tryz.prog.globalNamed "internal/strconv.uint64pow10").isSome=true by kernel_rfl)
theorem JGm (n:Nat)(h:n≤9223372036854775807):Jb Tryz.prog 46 [.int n] (.str (Jz n)) []:=by
 obtain ⟨g,hg⟩:=g64
 have:=JPu (n:Int) (by omega) (by omega) g hg
 rwa [JSC] at this
theorem JGl (m:Int)(h0:0≤m)(h1:m≤9223372036854775807):Jb Tryz.prog 46 [.int m] (.str (Jz m.toNat)) []:=by
 have:=JGm m.toNat (by omega)
 rwa [Int.toNat_of_nonneg h0] at this
theorem JNj (c:UInt8):∀n:Nat,Lib.repeatL [c] n=List.replicate n c
 |0=>rfl
 |n+1=>by rw [Lib.repeatL,JNj c n,List.replicate_succ];rfl
theorem JP1 (c:UInt8)(n:Nat)(h:n≤1000000):Jb Tryz.prog 131 [.str [c],.int n] (.str (List.replicate n c)) []:=by
 have:=JP2 [c] n (by omega) ZS
 rwa [JNj] at this
theorem JSX (a b:Nat):JAp false 0 ((a:Int)-(b:Int))=((a-b:Nat):Int):=by
 show (if (0:Int)<_ then _ else _)=_
 split<;>omega
theorem JQz (n w:Nat)(c:UInt8)(hn:n≤9223372036854775807)(hw:w≤1000):Jb Tryz.prog 81 [.int n,.int w,.str [c]] (.str (pad c w (Jz n))) []:=by
 have htl:=Zz (n:=n) (k:=20) (by omega) (by omega)
 have hsub:IntKind.i64.wrap ((w:Int)-((Jz n).length:Int))=(w:Int)-((Jz n).length:Int):=IntWalk.i64_in _ (by omega)
 have hmx:=JSX w (Jz n).length
 refine Js Jf Tryz.func81 rfl (by simp only [List.length_cons,List.length_nil,Tryz.ntmps81];omega) JJ rfl ?_
 refine JB.reg ?_
 have X:=Fx.mk hmx
 refine JA.o1 JAs ?_
 refine JA.nil (JB.reg ?_)
 refine JA.o1 JAs ?_
 refine JA.c1 (JGm n hn) JAs JAs ?_
 refine JA.o1 JAs ?_
 refine JA.nil (JB.reg ?_)
 iterate 4 (refine JA.o1 JAs ?_)
 refine JA.o1 V64 ?_
 refine JA.o1 JAs ?_
 refine JA.c1 (JP1 c (w-(Jz n).length) (by omega)) JAs JAs ?_
 refine JA.o1 JAs ?_
 refine JA.o1 V64 ?_
 refine JA.o1 JAs ?_
 refine JA.nil ?_
 exact Ends.fin [] (rs:=[.tmp 6]) rfl JAs (by simp only [go_sem,X.h,pad]<;>first|rfl|exact QP)
theorem JLR (l:Bs)(hl:l.length≤1000000):Jb Tryz.prog 82 [.str l] (.str (chk l)) []:=by
 have hch:chk l=Jz (ZI l%10):=rfl
 refine Js Jf Tryz.func82 rfl (by simp only [List.length_cons,List.length_nil,Tryz.ntmps82];omega) JJ rfl ?_
 refine JB.reg ?_
 have X:=Fx.mk hch
 refine JA.o1 JC ?_
 refine JA.nil (JB.reg ?_)
 refine JA.o1 JC ?_
 refine JA.nil (JB.assocS (JB.reg ?_))
 iterate 2 (refine JA.o1 JC ?_)
 refine JA.nil (JB.blk ?_)
 refine JB.whl [3,7] [7] (fun (p:Nat)=>[.slot 3 (.int (ZI (l.take p))),.slot 7 (.leaf (.obj 7)),.obj 7 (.sit (bs l) p)]) (fun p=>p≤l.length) (fun p=>l.length-p) (0) (fun p=>by simp only [go_sem]<;>rfl) JGN ?_ (fun p hX=>?_)
 ·exact Nat.zero_le _
 ·skip
  have hbd:=JRS l p hl
  by_cases hp:p<l.length
  ·skip
   refine JB.reg ?_
   have X:=X.a hp
   iterate 2 (refine JA.o1 JC ?_)
   refine JA.nil ?_
   refine JB.cndS JC (fun hb9=>?_) (fun hb9=>?_)
   ·skip
    refine JB.skipS (JB.blk1 (JB.reg ?_))
    iterate 2 (refine JA.o1 JC ?_)
    refine JA.nil (JB.reg ?_)
    iterate 3 (refine JA.o1 JC ?_)
    iterate 2 (refine JA.gop JD JC JD ?_)
    refine JA.o1 JC ?_
    refine JA.nil ?_
    refine JB.cnd JC (fun hb16=>?_) (fun hb16=>?_)
    ·skip
     have h1:48≤(Utf8.decode (bs l) p).1∧(Utf8.decode (bs l) p).1≤57:=by
      have h:=hb16
      rw [Bool.and_eq_true] at h
      have h1:=of_decide_eq_true h.1
      have h2:=of_decide_eq_true h.2
      omega
     obtain ⟨g1,g2,g3⟩:=JN3 hp h1.1 h1.2
     have g4:=JRT l p hp g3
     have hw1:IntKind.i32.wrap (((Utf8.decode (bs l) p).1:Int)-48)=(((Utf8.decode (bs l) p).1-48:Nat):Int):=by rw [IntWalk.i32_in _ (by omega)];omega
     have hw2:IntKind.i64.wrap (((Utf8.decode (bs l) p).1-48:Nat):Int)=(((Utf8.decode (bs l) p).1-48:Nat):Int):=IntWalk.i64_in _ (by omega)
     have hw3:IntKind.i64.wrap ((ZI (l.take p):Int)+(((Utf8.decode (bs l) p).1-48:Nat):Int))=(ZI (l.take (p+(Utf8.decode (bs l) p).2)):Int):=by rw [g1,g4,g2,IntWalk.i64_in _ (by omega)];omega
     refine JB.reg1 ?_
     have X:=((X.a hw1).a hw2).a hw3
     iterate 2 (refine JA.o1 JC ?_)
     iterate 3 (refine JA.o1 Jv ?_)
     refine JA.o1 JC ?_
     refine JA.nil (Qp.nrm ?_)
     refine Zm.nxt (p+(Utf8.decode (bs l) p).2) ?_ ?_ ?_
     ·show l.length-(p+(Utf8.decode (bs l) p).2)<l.length-p;omega
     ·show p+(Utf8.decode (bs l) p).2≤l.length;omega
     ·exact JN.kp [3,7] [7] ZA
    ·skip
     have h1:¬(48≤(Utf8.decode (bs l) p).1∧(Utf8.decode (bs l) p).1≤57):=by
      intro ⟨h1,h2⟩
      have h:=hb16
      rw [decide_eq_true (by omega),decide_eq_true (by omega)] at h
      cases h
     obtain ⟨g1,g2,g3⟩:=JUH hp h1
     have g4:=JRV l p _ g2 g3
     refine Qp.nrm ?_
     refine Zm.nxt (p+(Utf8.decode (bs l) p).2) ?_ ?_ ?_
     ·show l.length-(p+(Utf8.decode (bs l) p).2)<l.length-p;omega
     ·show p+(Utf8.decode (bs l) p).2≤l.length;exact g2
     ·exact JN.kp [3,7] [7] (by simp only [go_sem,hch,hp,g4]<;>first|exact QP|rfl)
   ·exact absurd hb9 (by simp)
  ·skip
   have hpe:p=l.length:=by omega
   subst hpe
   have htk:l.take l.length=l:=List.take_length
   have hm:Int.tmod ((ZI l:Nat):Int) 10=((ZI l%10:Nat):Int):=by rw [Int.tmod_eq_emod_of_nonneg (by omega)];omega
   refine JB.reg ?_
   have X:=((X.a hp).a htk).a hm
   iterate 2 (refine JA.o1 JC ?_)
   refine JA.nil ?_
   refine JB.cndS JC (fun hb9=>?_) (fun hb9=>?_)
   ·exact absurd hb9 (by simp)
   ·skip
    refine JB.exitS (Zm.ext (JR.hit (JB.reg ?_)))
    refine JA.o1 JC ?_
    refine JA.o1 Jv ?_
    refine JA.c1 (JGm (ZI l%10) (by omega)) JC JC ?_
    refine JA.o1 JC ?_
    refine JA.nil ?_
    exact Ends.fin [] (rs:=[.tmp 2]) rfl JC Qs
theorem JIg:Jb Tryz.prog 132 [] (.val true [.d (.i 6),.d (.i 7),.d (.i 7)]) []:=by
 refine Js Jf Tryz.func132 rfl (by simp only [List.length_cons,List.length_nil,Tryz.ntmps132];omega) JJ rfl ?_
 refine JB.reg ?_
 refine JA.o ?_
 refine JA.nil (JB.reg ?_)
 iterate 2 (refine JA.o ?_)
 refine JA.nil ?_
 exact Ends.fin [] (rs:=[.cell 0 209]) rfl JD ZB
end Go.Mw
