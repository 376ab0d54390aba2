/- Closed facts on the program's table of types. -/
import Derived.Test.YtpmdcdglfeicaaaGreatDoorD1
import Derived.Test.YtpmdcdglfeicaaaGreatDoorProg
import Derived.Test.YtpmdcdglfeicaaaGreatDoorB3
import Derived.Shelf.Lays
import Derived.Shelf.LaysM
import GoSem.Extern.Twins
import Derived.Test.YtpmdcdglfeicaaaGreatDoorB4
import Derived.Shelf.Strings.Prefix
import Derived.Shelf.Strings.OnBuilder
import Derived.Shelf.Strings.Repeat
import Derived.Shelf.Strings.Trim
import Derived.Shelf.Strings.SplitShaped
import Derived.Shelf.Strings.Shaped
import Derived.Shelf.Strconv.Itoa3
import Derived.Shelf.Small.Bits
import Derived.Lib.AppendIntMem
import Derived.WalkSmall
import Derived.Lib.ItoaLen
import Derived.Lib.Join
import Derived.Lib.Repeat
import Derived.Lib.TrimByte
import Derived.Lib.Strings
import Derived.Lib.BitFns
import Derived.Laws.RangeAny
import Derived.Laws.RangeString
import Derived.Test.YtpmdcdglfeicaaaGreatDoorB5
set_option maxRecDepth 100000
set_option maxHeartbeats 2000000
set_option linter.unusedSimpArgs false
set_option linter.unusedVariables false
set_option linter.unusedSectionVars false
set_option linter.deprecated false
namespace Go.Mw
open Go.Proofs
@[go_sem] theorem JXv:Jm Tryz.prog 3=some 1∧QI Tryz.prog 3=some 8∧J2 Tryz.prog 3=some false∧Jz Tryz.prog 3=none∧QF Tryz.prog 3=some IntKind.i64∧J9 Tryz.prog 3=false∧QR Tryz.prog 3=false∧QM Tryz.prog 3=none∧QH Tryz.prog 3=none∧QN Tryz.prog 3=none∧QV Tryz.prog 3=none∧QE Tryz.prog 3=some (false,[D.raw (Value.int IntKind.i64 (0))])∧Program.concrete Tryz.prog 3=true:=by and_intros<;>kernel_rfl
@[go_sem] theorem JXy:Jm Tryz.prog 4=some 1∧QI Tryz.prog 4=some 1∧J2 Tryz.prog 4=some false∧Jz Tryz.prog 4=none∧QF Tryz.prog 4=none∧J9 Tryz.prog 4=false∧QR Tryz.prog 4=true∧QM Tryz.prog 4=none∧QH Tryz.prog 4=none∧QN Tryz.prog 4=none∧QV Tryz.prog 4=none∧QE Tryz.prog 4=some (false,[D.raw (Value.bool false)])∧Program.concrete Tryz.prog 4=true:=by and_intros<;>kernel_rfl
@[go_sem] theorem JXz:Jm Tryz.prog 5=some 1∧QI Tryz.prog 5=some 1∧J2 Tryz.prog 5=some false∧Jz Tryz.prog 5=none∧QF Tryz.prog 5=some IntKind.u8∧J9 Tryz.prog 5=false∧QR Tryz.prog 5=false∧QM Tryz.prog 5=none∧QH Tryz.prog 5=none∧QN Tryz.prog 5=none∧QV Tryz.prog 5=none∧QE Tryz.prog 5=some (false,[D.raw (Value.int IntKind.u8 (0))])∧Program.concrete Tryz.prog 5=true:=by and_intros<;>kernel_rfl
@[go_sem] theorem JYA:Jm Tryz.prog 9=some 1∧QI Tryz.prog 9=some 16∧J2 Tryz.prog 9=some false∧Jz Tryz.prog 9=none∧QF Tryz.prog 9=none∧J9 Tryz.prog 9=true∧QR Tryz.prog 9=false∧QM Tryz.prog 9=none∧QH Tryz.prog 9=none∧QN Tryz.prog 9=none∧QV Tryz.prog 9=none∧QE Tryz.prog 9=some (false,[D.raw (Value.string (ByteArray.mk (List.toArray [])))])∧Program.concrete Tryz.prog 9=true:=by and_intros<;>kernel_rfl
@[go_sem] theorem JXa:Jm Tryz.prog 20=some 1∧QI Tryz.prog 20=some 16∧J2 Tryz.prog 20=some false∧Jz Tryz.prog 20=none∧QF Tryz.prog 20=none∧J9 Tryz.prog 20=false∧QR Tryz.prog 20=false∧QM Tryz.prog 20=none∧QH Tryz.prog 20=none∧QN Tryz.prog 20=none∧QV Tryz.prog 20=none∧QE Tryz.prog 20=some (false,[D.raw Value.nilIface])∧Program.concrete Tryz.prog 20=false:=by and_intros<;>kernel_rfl
@[go_sem] theorem JXg:Jm Tryz.prog 21=some 1∧QI Tryz.prog 21=some 4∧J2 Tryz.prog 21=some false∧Jz Tryz.prog 21=none∧QF Tryz.prog 21=some IntKind.i32∧J9 Tryz.prog 21=false∧QR Tryz.prog 21=false∧QM Tryz.prog 21=none∧QH Tryz.prog 21=none∧QN Tryz.prog 21=none∧QV Tryz.prog 21=none∧QE Tryz.prog 21=some (false,[D.raw (Value.int IntKind.i32 (0))])∧Program.concrete Tryz.prog 21=true:=by and_intros<;>kernel_rfl
@[go_sem] theorem JXr:Jm Tryz.prog 28=some 1∧QI Tryz.prog 28=some 24∧J2 Tryz.prog 28=some false∧Jz Tryz.prog 28=some 31∧QF Tryz.prog 28=none∧J9 Tryz.prog 28=false∧QR Tryz.prog 28=false∧QM Tryz.prog 28=none∧QH Tryz.prog 28=none∧QN Tryz.prog 28=none∧QV Tryz.prog 28=none∧QE Tryz.prog 28=some (false,[D.raw (Value.slice none 0 0)])∧Program.concrete Tryz.prog 28=true:=by and_intros<;>kernel_rfl
@[go_sem] theorem JXu:Jm Tryz.prog 29=some 1∧QI Tryz.prog 29=some 24∧J2 Tryz.prog 29=some false∧Jz Tryz.prog 29=some 3∧QF Tryz.prog 29=none∧J9 Tryz.prog 29=false∧QR Tryz.prog 29=false∧QM Tryz.prog 29=none∧QH Tryz.prog 29=none∧QN Tryz.prog 29=none∧QV Tryz.prog 29=none∧QE Tryz.prog 29=some (false,[D.raw (Value.slice none 0 0)])∧Program.concrete Tryz.prog 29=true:=by and_intros<;>kernel_rfl
@[go_sem] theorem JXw:Jm Tryz.prog 31=some 2∧QI Tryz.prog 31=some 32∧J2 Tryz.prog 31=some true∧Jz Tryz.prog 31=none∧QF Tryz.prog 31=none∧J9 Tryz.prog 31=false∧QR Tryz.prog 31=false∧QM Tryz.prog 31=none∧QH Tryz.prog 31=none∧QN Tryz.prog 31=none∧QV Tryz.prog 31=some [(0,1),(1,1)]∧QE Tryz.prog 31=some (true,[D.raw (Value.int IntKind.i64 (0)),D.raw (Value.slice none 0 0)])∧Program.concrete Tryz.prog 31=true:=by and_intros<;>kernel_rfl
@[go_sem] theorem JXx:Jm Tryz.prog 35=some 1∧QI Tryz.prog 35=some 8∧J2 Tryz.prog 35=some false∧Jz Tryz.prog 35=none∧QF Tryz.prog 35=some IntKind.i64∧J9 Tryz.prog 35=false∧QR Tryz.prog 35=false∧QM Tryz.prog 35=none∧QH Tryz.prog 35=none∧QN Tryz.prog 35=none∧QV Tryz.prog 35=none∧QE Tryz.prog 35=some (false,[D.raw (Value.int IntKind.i64 (0))])∧Program.concrete Tryz.prog 35=true:=by and_intros<;>kernel_rfl
@[go_sem] theorem JX0:Jm Tryz.prog 52=some 1∧QI Tryz.prog 52=some 24∧J2 Tryz.prog 52=some false∧Jz Tryz.prog 52=some 70∧QF Tryz.prog 52=none∧J9 Tryz.prog 52=false∧QR Tryz.prog 52=false∧QM Tryz.prog 52=none∧QH Tryz.prog 52=none∧QN Tryz.prog 52=none∧QV Tryz.prog 52=none∧QE Tryz.prog 52=some (false,[D.raw (Value.slice none 0 0)])∧Program.concrete Tryz.prog 52=true:=by and_intros<;>kernel_rfl
@[go_sem] theorem JX1:Jm Tryz.prog 53=some 1∧QI Tryz.prog 53=some 24∧J2 Tryz.prog 53=some false∧Jz Tryz.prog 53=some 5∧QF Tryz.prog 53=none∧J9 Tryz.prog 53=false∧QR Tryz.prog 53=false∧QM Tryz.prog 53=none∧QH Tryz.prog 53=none∧QN Tryz.prog 53=none∧QV Tryz.prog 53=none∧QE Tryz.prog 53=some (false,[D.raw (Value.slice none 0 0)])∧Program.concrete Tryz.prog 53=true:=by and_intros<;>kernel_rfl
@[go_sem] theorem JX2:Jm Tryz.prog 61=some 1∧QI Tryz.prog 61=some 24∧J2 Tryz.prog 61=some false∧Jz Tryz.prog 61=some 68∧QF Tryz.prog 61=none∧J9 Tryz.prog 61=false∧QR Tryz.prog 61=false∧QM Tryz.prog 61=none∧QH Tryz.prog 61=none∧QN Tryz.prog 61=none∧QV Tryz.prog 61=none∧QE Tryz.prog 61=some (false,[D.raw (Value.slice none 0 0)])∧Program.concrete Tryz.prog 61=true:=by and_intros<;>kernel_rfl
@[go_sem] theorem JX3:Jm Tryz.prog 65=some 1∧QI Tryz.prog 65=some 8∧J2 Tryz.prog 65=some false∧Jz Tryz.prog 65=none∧QF Tryz.prog 65=none∧J9 Tryz.prog 65=false∧QR Tryz.prog 65=false∧QM Tryz.prog 65=none∧QH Tryz.prog 65=none∧QN Tryz.prog 65=none∧QV Tryz.prog 65=none∧QE Tryz.prog 65=some (false,[D.raw Value.nilFunc])∧Program.concrete Tryz.prog 65=true:=by and_intros<;>kernel_rfl
@[go_sem] theorem JX4:Jm Tryz.prog 66=some 1∧QI Tryz.prog 66=some 24∧J2 Tryz.prog 66=some false∧Jz Tryz.prog 66=some 146∧QF Tryz.prog 66=none∧J9 Tryz.prog 66=false∧QR Tryz.prog 66=false∧QM Tryz.prog 66=none∧QH Tryz.prog 66=none∧QN Tryz.prog 66=none∧QV Tryz.prog 66=none∧QE Tryz.prog 66=some (false,[D.raw (Value.slice none 0 0)])∧Program.concrete Tryz.prog 66=true:=by and_intros<;>kernel_rfl
@[go_sem] theorem JX5:Jm Tryz.prog 68=some 2∧QI Tryz.prog 68=some 32∧J2 Tryz.prog 68=some true∧Jz Tryz.prog 68=none∧QF Tryz.prog 68=none∧J9 Tryz.prog 68=false∧QR Tryz.prog 68=false∧QM Tryz.prog 68=none∧QH Tryz.prog 68=none∧QN Tryz.prog 68=none∧QV Tryz.prog 68=some [(0,1),(1,1)]∧QE Tryz.prog 68=some (true,[D.raw (Value.int IntKind.i64 (0)),D.raw (Value.slice none 0 0)])∧Program.concrete Tryz.prog 68=true:=by and_intros<;>kernel_rfl
@[go_sem] theorem JX6:Jm Tryz.prog 70=some 3∧QI Tryz.prog 70=some 24∧J2 Tryz.prog 70=some true∧Jz Tryz.prog 70=none∧QF Tryz.prog 70=none∧J9 Tryz.prog 70=false∧QR Tryz.prog 70=false∧QM Tryz.prog 70=none∧QH Tryz.prog 70=none∧QN Tryz.prog 70=some 3∧QV Tryz.prog 70=some [(0,1),(1,1),(2,1)]∧QE Tryz.prog 70=some (true,[D.raw (Value.int IntKind.i64 (0)),D.raw (Value.int IntKind.i64 (0)),D.raw (Value.int IntKind.i64 (0))])∧Program.concrete Tryz.prog 70=true:=by and_intros<;>kernel_rfl
@[go_sem] theorem JX7:Jm Tryz.prog 80=some 1∧QI Tryz.prog 80=some 2∧J2 Tryz.prog 80=some false∧Jz Tryz.prog 80=none∧QF Tryz.prog 80=some IntKind.u16∧J9 Tryz.prog 80=false∧QR Tryz.prog 80=false∧QM Tryz.prog 80=none∧QH Tryz.prog 80=none∧QN Tryz.prog 80=none∧QV Tryz.prog 80=none∧QE Tryz.prog 80=some (false,[D.raw (Value.int IntKind.u16 (0))])∧Program.concrete Tryz.prog 80=true:=by and_intros<;>kernel_rfl
@[go_sem] theorem JX8:Jm Tryz.prog 86=some 1∧QI Tryz.prog 86=some 8∧J2 Tryz.prog 86=some false∧Jz Tryz.prog 86=none∧QF Tryz.prog 86=none∧J9 Tryz.prog 86=false∧QR Tryz.prog 86=false∧QM Tryz.prog 86=none∧QH Tryz.prog 86=none∧QN Tryz.prog 86=none∧QV Tryz.prog 86=none∧QE Tryz.prog 86=some (false,[D.raw (Value.pointer none)])∧Program.concrete Tryz.prog 86=true:=by and_intros<;>kernel_rfl
@[go_sem] theorem JX9:Jm Tryz.prog 88=some 2∧QI Tryz.prog 88=some 32∧J2 Tryz.prog 88=some true∧Jz Tryz.prog 88=none∧QF Tryz.prog 88=none∧J9 Tryz.prog 88=false∧QR Tryz.prog 88=false∧QM Tryz.prog 88=none∧QH Tryz.prog 88=none∧QN Tryz.prog 88=none∧QV Tryz.prog 88=some [(0,1),(1,1)]∧QE Tryz.prog 88=some (true,[D.raw (Value.pointer none),D.raw (Value.slice none 0 0)])∧Program.concrete Tryz.prog 88=true:=by and_intros<;>kernel_rfl
@[go_sem] theorem JYB:Jm Tryz.prog 90=some 2∧QI Tryz.prog 90=some 32∧J2 Tryz.prog 90=some true∧Jz Tryz.prog 90=none∧QF Tryz.prog 90=none∧J9 Tryz.prog 90=false∧QR Tryz.prog 90=false∧QM Tryz.prog 90=none∧QH Tryz.prog 90=none∧QN Tryz.prog 90=none∧QV Tryz.prog 90=some [(0,2)]∧QE Tryz.prog 90=some (true,[D.raw (Value.pointer none),D.raw (Value.slice none 0 0)])∧Program.concrete Tryz.prog 90=true:=by and_intros<;>kernel_rfl
@[go_sem] theorem JYC:Jm Tryz.prog 92=some 1∧QI Tryz.prog 92=some 24∧J2 Tryz.prog 92=some false∧Jz Tryz.prog 92=some 9∧QF Tryz.prog 92=none∧J9 Tryz.prog 92=false∧QR Tryz.prog 92=false∧QM Tryz.prog 92=none∧QH Tryz.prog 92=none∧QN Tryz.prog 92=none∧QV Tryz.prog 92=none∧QE Tryz.prog 92=some (false,[D.raw (Value.slice none 0 0)])∧Program.concrete Tryz.prog 92=true:=by and_intros<;>kernel_rfl
@[go_sem] theorem JYD:Jm Tryz.prog 93=some 1∧QI Tryz.prog 93=some 24∧J2 Tryz.prog 93=some false∧Jz Tryz.prog 93=some 96∧QF Tryz.prog 93=none∧J9 Tryz.prog 93=false∧QR Tryz.prog 93=false∧QM Tryz.prog 93=none∧QH Tryz.prog 93=none∧QN Tryz.prog 93=none∧QV Tryz.prog 93=none∧QE Tryz.prog 93=some (false,[D.raw (Value.slice none 0 0)])∧Program.concrete Tryz.prog 93=true:=by and_intros<;>kernel_rfl
@[go_sem] theorem JYE:Jm Tryz.prog 96=some 2∧QI Tryz.prog 96=some 16∧J2 Tryz.prog 96=some true∧Jz Tryz.prog 96=none∧QF Tryz.prog 96=none∧J9 Tryz.prog 96=false∧QR Tryz.prog 96=false∧QM Tryz.prog 96=none∧QH Tryz.prog 96=none∧QN Tryz.prog 96=some 2∧QV Tryz.prog 96=some [(0,1),(1,1)]∧QE Tryz.prog 96=some (true,[D.raw (Value.int IntKind.i64 (0)),D.raw (Value.int IntKind.i64 (0))])∧Program.concrete Tryz.prog 96=true:=by and_intros<;>kernel_rfl
@[go_sem] theorem JXI:Jm Tryz.prog 117=some 1∧QI Tryz.prog 117=some 8∧J2 Tryz.prog 117=some false∧Jz Tryz.prog 117=none∧QF Tryz.prog 117=none∧J9 Tryz.prog 117=false∧QR Tryz.prog 117=false∧QM Tryz.prog 117=none∧QH Tryz.prog 117=none∧QN Tryz.prog 117=none∧QV Tryz.prog 117=none∧QE Tryz.prog 117=some (false,[D.raw Value.nilFunc])∧Program.concrete Tryz.prog 117=true:=by and_intros<;>kernel_rfl
@[go_sem] theorem JXJ:Jm Tryz.prog 118=some 1∧QI Tryz.prog 118=some 8∧J2 Tryz.prog 118=some false∧Jz Tryz.prog 118=none∧QF Tryz.prog 118=none∧J9 Tryz.prog 118=false∧QR Tryz.prog 118=false∧QM Tryz.prog 118=none∧QH Tryz.prog 118=none∧QN Tryz.prog 118=none∧QV Tryz.prog 118=none∧QE Tryz.prog 118=some (false,[D.raw Value.nilFunc])∧Program.concrete Tryz.prog 118=true:=by and_intros<;>kernel_rfl
@[go_sem] theorem JXK:Jm Tryz.prog 120=some 1∧QI Tryz.prog 120=some 1∧J2 Tryz.prog 120=some false∧Jz Tryz.prog 120=none∧QF Tryz.prog 120=some IntKind.i8∧J9 Tryz.prog 120=false∧QR Tryz.prog 120=false∧QM Tryz.prog 120=none∧QH Tryz.prog 120=none∧QN Tryz.prog 120=none∧QV Tryz.prog 120=none∧QE Tryz.prog 120=some (false,[D.raw (Value.int IntKind.i8 (0))])∧Program.concrete Tryz.prog 120=true:=by and_intros<;>kernel_rfl
@[go_sem] theorem JXL:Jm Tryz.prog 122=some 3∧QI Tryz.prog 122=some 40∧J2 Tryz.prog 122=some true∧Jz Tryz.prog 122=none∧QF Tryz.prog 122=none∧J9 Tryz.prog 122=false∧QR Tryz.prog 122=false∧QM Tryz.prog 122=none∧QH Tryz.prog 122=none∧QN Tryz.prog 122=none∧QV Tryz.prog 122=some [(0,1),(1,1),(2,1)]∧QE Tryz.prog 122=some (true,[D.raw (Value.slice none 0 0),D.raw (Value.int IntKind.i64 (0)),D.raw (Value.int IntKind.i8 (0))])∧Program.concrete Tryz.prog 122=true:=by and_intros<;>kernel_rfl
@[go_sem] theorem JXM:Jm Tryz.prog 124=some 6∧QI Tryz.prog 124=some 64∧J2 Tryz.prog 124=some true∧Jz Tryz.prog 124=none∧QF Tryz.prog 124=none∧J9 Tryz.prog 124=false∧QR Tryz.prog 124=false∧QM Tryz.prog 124=none∧QH Tryz.prog 124=none∧QN Tryz.prog 124=none∧QV Tryz.prog 124=some [(0,3),(3,1),(4,1),(5,1)]∧QE Tryz.prog 124=some (true,[D.raw (Value.slice none 0 0),D.raw (Value.int IntKind.i64 (0)),D.raw (Value.int IntKind.i8 (0)),D.raw (Value.int IntKind.u8 (0)),D.raw (Value.int IntKind.i64 (0)),D.raw (Value.int IntKind.i64 (0))])∧Program.concrete Tryz.prog 124=true:=by and_intros<;>kernel_rfl
@[go_sem] theorem JXN:Jm Tryz.prog 132=some 1∧QI Tryz.prog 132=some 8∧J2 Tryz.prog 132=some false∧Jz Tryz.prog 132=none∧QF Tryz.prog 132=none∧J9 Tryz.prog 132=false∧QR Tryz.prog 132=false∧QM Tryz.prog 132=none∧QH Tryz.prog 132=none∧QN Tryz.prog 132=none∧QV Tryz.prog 132=none∧QE Tryz.prog 132=some (false,[D.raw (Value.pointer none)])∧Program.concrete Tryz.prog 132=true:=by and_intros<;>kernel_rfl
@[go_sem] theorem JXO:Jm Tryz.prog 137=some 2∧QI Tryz.prog 137=some 32∧J2 Tryz.prog 137=some true∧Jz Tryz.prog 137=none∧QF Tryz.prog 137=none∧J9 Tryz.prog 137=false∧QR Tryz.prog 137=false∧QM Tryz.prog 137=none∧QH Tryz.prog 137=none∧QN Tryz.prog 137=none∧QV Tryz.prog 137=some [(0,1),(1,1)]∧QE Tryz.prog 137=some (true,[D.raw (Value.slice none 0 0),D.raw (Value.int IntKind.i64 (0))])∧Program.concrete Tryz.prog 137=true:=by and_intros<;>kernel_rfl
@[go_sem] theorem JXP:Jm Tryz.prog 146=some 3∧QI Tryz.prog 146=some 24∧J2 Tryz.prog 146=some true∧Jz Tryz.prog 146=none∧QF Tryz.prog 146=none∧J9 Tryz.prog 146=false∧QR Tryz.prog 146=false∧QM Tryz.prog 146=none∧QH Tryz.prog 146=none∧QN Tryz.prog 146=some 3∧QV Tryz.prog 146=some [(0,1),(1,1),(2,1)]∧QE Tryz.prog 146=some (true,[D.raw (Value.int IntKind.i64 (0)),D.raw (Value.int IntKind.i64 (0)),D.raw (Value.int IntKind.i64 (0))])∧Program.concrete Tryz.prog 146=true:=by and_intros<;>kernel_rfl
@[go_sem] theorem JXQ:Jm Tryz.prog 148=some 3∧QI Tryz.prog 148=some 48∧J2 Tryz.prog 148=some true∧Jz Tryz.prog 148=none∧QF Tryz.prog 148=none∧J9 Tryz.prog 148=false∧QR Tryz.prog 148=false∧QM Tryz.prog 148=some (3,1)∧QH Tryz.prog 148=some (3,1,false)∧QN Tryz.prog 148=none∧QV Tryz.prog 148=some [(0,1),(1,1),(2,1)]∧QE Tryz.prog 148=some (true,[D.raw (Value.string (ByteArray.mk (List.toArray []))),D.raw (Value.string (ByteArray.mk (List.toArray []))),D.raw (Value.string (ByteArray.mk (List.toArray [])))])∧Program.concrete Tryz.prog 148=true:=by and_intros<;>kernel_rfl
@[go_sem] theorem JXR:Jm Tryz.prog 162=some 1∧QI Tryz.prog 162=some 8∧J2 Tryz.prog 162=some false∧Jz Tryz.prog 162=none∧QF Tryz.prog 162=none∧J9 Tryz.prog 162=false∧QR Tryz.prog 162=false∧QM Tryz.prog 162=none∧QH Tryz.prog 162=none∧QN Tryz.prog 162=none∧QV Tryz.prog 162=none∧QE Tryz.prog 162=some (false,[D.raw Value.nilFunc])∧Program.concrete Tryz.prog 162=true:=by and_intros<;>kernel_rfl
@[go_sem] theorem JXS:Jm Tryz.prog 163=some 1∧QI Tryz.prog 163=some 8∧J2 Tryz.prog 163=some false∧Jz Tryz.prog 163=none∧QF Tryz.prog 163=none∧J9 Tryz.prog 163=false∧QR Tryz.prog 163=false∧QM Tryz.prog 163=none∧QH Tryz.prog 163=none∧QN Tryz.prog 163=none∧QV Tryz.prog 163=none∧QE Tryz.prog 163=some (false,[D.raw Value.nilFunc])∧Program.concrete Tryz.prog 163=true:=by and_intros<;>kernel_rfl
@[go_sem] theorem JXT:Jm Tryz.prog 166=some 1∧QI Tryz.prog 166=some 16∧J2 Tryz.prog 166=some false∧Jz Tryz.prog 166=none∧QF Tryz.prog 166=none∧J9 Tryz.prog 166=false∧QR Tryz.prog 166=false∧QM Tryz.prog 166=none∧QH Tryz.prog 166=none∧QN Tryz.prog 166=none∧QV Tryz.prog 166=none∧QE Tryz.prog 166=some (false,[D.raw Value.nilIface])∧Program.concrete Tryz.prog 166=false:=by and_intros<;>kernel_rfl
@[go_sem] theorem JXU:Jm Tryz.prog 170=some 1∧QI Tryz.prog 170=some 8∧J2 Tryz.prog 170=some false∧Jz Tryz.prog 170=none∧QF Tryz.prog 170=none∧J9 Tryz.prog 170=false∧QR Tryz.prog 170=false∧QM Tryz.prog 170=none∧QH Tryz.prog 170=none∧QN Tryz.prog 170=none∧QV Tryz.prog 170=none∧QE Tryz.prog 170=some (false,[D.raw (Value.pointer none)])∧Program.concrete Tryz.prog 170=true:=by and_intros<;>kernel_rfl
@[go_sem] theorem JXV:Jm Tryz.prog 172=some 1∧QI Tryz.prog 172=some 8∧J2 Tryz.prog 172=some true∧Jz Tryz.prog 172=none∧QF Tryz.prog 172=none∧J9 Tryz.prog 172=false∧QR Tryz.prog 172=false∧QM Tryz.prog 172=none∧QH Tryz.prog 172=none∧QN Tryz.prog 172=some 1∧QV Tryz.prog 172=some [(0,1)]∧QE Tryz.prog 172=some (true,[D.raw (Value.int IntKind.i64 (0))])∧Program.concrete Tryz.prog 172=true:=by and_intros<;>kernel_rfl
@[go_sem] theorem JXW:Jm Tryz.prog 195=some 1∧QI Tryz.prog 195=some 8∧J2 Tryz.prog 195=some false∧Jz Tryz.prog 195=none∧QF Tryz.prog 195=none∧J9 Tryz.prog 195=false∧QR Tryz.prog 195=false∧QM Tryz.prog 195=none∧QH Tryz.prog 195=none∧QN Tryz.prog 195=none∧QV Tryz.prog 195=none∧QE Tryz.prog 195=some (false,[D.raw Value.nilFunc])∧Program.concrete Tryz.prog 195=true:=by and_intros<;>kernel_rfl
@[go_sem] theorem JXX:Jm Tryz.prog 197=some 1∧QI Tryz.prog 197=some 8∧J2 Tryz.prog 197=some false∧Jz Tryz.prog 197=none∧QF Tryz.prog 197=none∧J9 Tryz.prog 197=false∧QR Tryz.prog 197=false∧QM Tryz.prog 197=none∧QH Tryz.prog 197=none∧QN Tryz.prog 197=none∧QV Tryz.prog 197=none∧QE Tryz.prog 197=some (false,[D.raw Value.nilFunc])∧Program.concrete Tryz.prog 197=true:=by and_intros<;>kernel_rfl
@[go_sem] theorem JXY:Jm Tryz.prog 198=some 1∧QI Tryz.prog 198=some 8∧J2 Tryz.prog 198=some false∧Jz Tryz.prog 198=none∧QF Tryz.prog 198=none∧J9 Tryz.prog 198=false∧QR Tryz.prog 198=false∧QM Tryz.prog 198=none∧QH Tryz.prog 198=none∧QN Tryz.prog 198=none∧QV Tryz.prog 198=none∧QE Tryz.prog 198=some (false,[D.raw Value.nilFunc])∧Program.concrete Tryz.prog 198=true:=by and_intros<;>kernel_rfl
@[go_sem] theorem JXZ:Jm Tryz.prog 199=some 1∧QI Tryz.prog 199=some 8∧J2 Tryz.prog 199=some false∧Jz Tryz.prog 199=none∧QF Tryz.prog 199=none∧J9 Tryz.prog 199=false∧QR Tryz.prog 199=false∧QM Tryz.prog 199=none∧QH Tryz.prog 199=none∧QN Tryz.prog 199=none∧QV Tryz.prog 199=none∧QE Tryz.prog 199=some (false,[D.raw (Value.pointer none)])∧Program.concrete Tryz.prog 199=true:=by and_intros<;>kernel_rfl
@[go_sem] theorem JXb:Jm Tryz.prog 200=some 1∧QI Tryz.prog 200=some 8∧J2 Tryz.prog 200=some false∧Jz Tryz.prog 200=none∧QF Tryz.prog 200=some IntKind.u64∧J9 Tryz.prog 200=false∧QR Tryz.prog 200=false∧QM Tryz.prog 200=none∧QH Tryz.prog 200=none∧QN Tryz.prog 200=none∧QV Tryz.prog 200=none∧QE Tryz.prog 200=some (false,[D.raw (Value.int IntKind.u64 (0))])∧Program.concrete Tryz.prog 200=true:=by and_intros<;>kernel_rfl
@[go_sem] theorem JXc:Jm Tryz.prog 201=some 1∧QI Tryz.prog 201=some 8∧J2 Tryz.prog 201=some false∧Jz Tryz.prog 201=none∧QF Tryz.prog 201=none∧J9 Tryz.prog 201=false∧QR Tryz.prog 201=false∧QM Tryz.prog 201=none∧QH Tryz.prog 201=none∧QN Tryz.prog 201=none∧QV Tryz.prog 201=none∧QE Tryz.prog 201=some (false,[D.raw (Value.pointer none)])∧Program.concrete Tryz.prog 201=true:=by and_intros<;>kernel_rfl
@[go_sem] theorem JXd:Jm Tryz.prog 206=some 1∧QI Tryz.prog 206=some 8∧J2 Tryz.prog 206=some false∧Jz Tryz.prog 206=none∧QF Tryz.prog 206=none∧J9 Tryz.prog 206=false∧QR Tryz.prog 206=false∧QM Tryz.prog 206=none∧QH Tryz.prog 206=none∧QN Tryz.prog 206=none∧QV Tryz.prog 206=none∧QE Tryz.prog 206=some (false,[D.raw Value.nilFunc])∧Program.concrete Tryz.prog 206=true:=by and_intros<;>kernel_rfl
@[go_sem] theorem JXe:Jm Tryz.prog 207=some 1∧QI Tryz.prog 207=some 8∧J2 Tryz.prog 207=some false∧Jz Tryz.prog 207=none∧QF Tryz.prog 207=none∧J9 Tryz.prog 207=false∧QR Tryz.prog 207=false∧QM Tryz.prog 207=none∧QH Tryz.prog 207=none∧QN Tryz.prog 207=none∧QV Tryz.prog 207=none∧QE Tryz.prog 207=some (false,[D.raw Value.nilFunc])∧Program.concrete Tryz.prog 207=true:=by and_intros<;>kernel_rfl
@[go_sem] theorem JXf:Jm Tryz.prog 209=some 3∧QI Tryz.prog 209=some 24∧J2 Tryz.prog 209=some true∧Jz Tryz.prog 209=none∧QF Tryz.prog 209=none∧J9 Tryz.prog 209=false∧QR Tryz.prog 209=false∧QM Tryz.prog 209=some (3,1)∧QH Tryz.prog 209=some (3,1,false)∧QN Tryz.prog 209=none∧QV Tryz.prog 209=some [(0,1),(1,1),(2,1)]∧QE Tryz.prog 209=some (true,[D.raw (Value.int IntKind.i64 (0)),D.raw (Value.int IntKind.i64 (0)),D.raw (Value.int IntKind.i64 (0))])∧Program.concrete Tryz.prog 209=true:=by and_intros<;>kernel_rfl
@[go_sem] theorem JXh:Jm Tryz.prog 230=some 1∧QI Tryz.prog 230=some 8∧J2 Tryz.prog 230=some false∧Jz Tryz.prog 230=none∧QF Tryz.prog 230=none∧J9 Tryz.prog 230=false∧QR Tryz.prog 230=false∧QM Tryz.prog 230=none∧QH Tryz.prog 230=none∧QN Tryz.prog 230=none∧QV Tryz.prog 230=none∧QE Tryz.prog 230=some (false,[D.raw Value.nilFunc])∧Program.concrete Tryz.prog 230=true:=by and_intros<;>kernel_rfl
@[go_sem] theorem JXi:Jm Tryz.prog 236=some 256∧QI Tryz.prog 236=some 256∧J2 Tryz.prog 236=some true∧Jz Tryz.prog 236=none∧QF Tryz.prog 236=none∧J9 Tryz.prog 236=false∧QR Tryz.prog 236=false∧QM Tryz.prog 236=some (256,1)∧QH Tryz.prog 236=some (256,1,false)∧QN Tryz.prog 236=none∧Program.concrete Tryz.prog 236=true:=by and_intros<;>kernel_rfl
@[go_sem] theorem JXj:Jm Tryz.prog 240=some 1∧QI Tryz.prog 240=some 8∧J2 Tryz.prog 240=some false∧Jz Tryz.prog 240=none∧QF Tryz.prog 240=none∧J9 Tryz.prog 240=false∧QR Tryz.prog 240=false∧QM Tryz.prog 240=none∧QH Tryz.prog 240=none∧QN Tryz.prog 240=none∧QV Tryz.prog 240=none∧QE Tryz.prog 240=some (false,[D.raw (Value.pointer none)])∧Program.concrete Tryz.prog 240=true:=by and_intros<;>kernel_rfl
@[go_sem] theorem JXk:Jm Tryz.prog 245=some 1∧QI Tryz.prog 245=some 8∧J2 Tryz.prog 245=some false∧Jz Tryz.prog 245=none∧QF Tryz.prog 245=some IntKind.u64∧J9 Tryz.prog 245=false∧QR Tryz.prog 245=false∧QM Tryz.prog 245=none∧QH Tryz.prog 245=none∧QN Tryz.prog 245=none∧QV Tryz.prog 245=none∧QE Tryz.prog 245=some (false,[D.raw (Value.int IntKind.u64 (0))])∧Program.concrete Tryz.prog 245=true:=by and_intros<;>kernel_rfl
@[go_sem] theorem JXl:Jm Tryz.prog 250=some 1∧QI Tryz.prog 250=some 8∧J2 Tryz.prog 250=some false∧Jz Tryz.prog 250=none∧QF Tryz.prog 250=none∧J9 Tryz.prog 250=false∧QR Tryz.prog 250=false∧QM Tryz.prog 250=none∧QH Tryz.prog 250=none∧QN Tryz.prog 250=none∧QV Tryz.prog 250=none∧QE Tryz.prog 250=some (false,[D.raw (Value.pointer none)])∧Program.concrete Tryz.prog 250=true:=by and_intros<;>kernel_rfl
@[go_sem] theorem JXm:Jm Tryz.prog 258=some 1∧QI Tryz.prog 258=some 4∧J2 Tryz.prog 258=some false∧Jz Tryz.prog 258=none∧QF Tryz.prog 258=some IntKind.u32∧J9 Tryz.prog 258=false∧QR Tryz.prog 258=false∧QM Tryz.prog 258=none∧QH Tryz.prog 258=none∧QN Tryz.prog 258=none∧QV Tryz.prog 258=none∧QE Tryz.prog 258=some (false,[D.raw (Value.int IntKind.u32 (0))])∧Program.concrete Tryz.prog 258=true:=by and_intros<;>kernel_rfl
@[go_sem] theorem JXn:Jm Tryz.prog 272=some 20∧QI Tryz.prog 272=some 160∧J2 Tryz.prog 272=some true∧Jz Tryz.prog 272=none∧QF Tryz.prog 272=none∧J9 Tryz.prog 272=false∧QR Tryz.prog 272=false∧QM Tryz.prog 272=some (20,1)∧QH Tryz.prog 272=some (20,1,false)∧QN Tryz.prog 272=none∧QV Tryz.prog 272=some [(0,1),(1,1),(2,1),(3,1),(4,1),(5,1),(6,1),(7,1),(8,1),(9,1),(10,1),(11,1),(12,1),(13,1),(14,1),(15,1),(16,1),(17,1),(18,1),(19,1)]∧Program.concrete Tryz.prog 272=true:=by and_intros<;>kernel_rfl
@[go_sem] theorem JXo:Jm Tryz.prog 276=some 256∧QI Tryz.prog 276=some 256∧J2 Tryz.prog 276=some true∧Jz Tryz.prog 276=none∧QF Tryz.prog 276=none∧J9 Tryz.prog 276=false∧QR Tryz.prog 276=false∧QM Tryz.prog 276=some (256,1)∧QH Tryz.prog 276=some (256,1,false)∧QN Tryz.prog 276=none∧Program.concrete Tryz.prog 276=true:=by and_intros<;>kernel_rfl
@[go_sem] theorem JXp:Jm Tryz.prog 278=some 2∧QI Tryz.prog 278=some 2∧J2 Tryz.prog 278=some true∧Jz Tryz.prog 278=none∧QF Tryz.prog 278=none∧J9 Tryz.prog 278=false∧QR Tryz.prog 278=false∧QM Tryz.prog 278=none∧QH Tryz.prog 278=none∧QN Tryz.prog 278=some 2∧QV Tryz.prog 278=some [(0,1),(1,1)]∧QE Tryz.prog 278=some (true,[D.raw (Value.int IntKind.u8 (0)),D.raw (Value.int IntKind.u8 (0))])∧Program.concrete Tryz.prog 278=true:=by and_intros<;>kernel_rfl
@[go_sem] theorem JXq:Jm Tryz.prog 279=some 32∧QI Tryz.prog 279=some 32∧J2 Tryz.prog 279=some true∧Jz Tryz.prog 279=none∧QF Tryz.prog 279=none∧J9 Tryz.prog 279=false∧QR Tryz.prog 279=false∧QM Tryz.prog 279=some (16,2)∧QH Tryz.prog 279=some (16,2,true)∧QN Tryz.prog 279=none∧QV Tryz.prog 279=some [(0,2),(2,2),(4,2),(6,2),(8,2),(10,2),(12,2),(14,2),(16,2),(18,2),(20,2),(22,2),(24,2),(26,2),(28,2),(30,2)]∧Program.concrete Tryz.prog 279=true:=by and_intros<;>kernel_rfl
@[go_sem] theorem JXs:Jm Tryz.prog 281=some 32∧QI Tryz.prog 281=some 32∧J2 Tryz.prog 281=some true∧Jz Tryz.prog 281=none∧QF Tryz.prog 281=none∧J9 Tryz.prog 281=false∧QR Tryz.prog 281=false∧QM Tryz.prog 281=some (32,1)∧QH Tryz.prog 281=some (32,1,false)∧QN Tryz.prog 281=none∧QV Tryz.prog 281=some [(0,1),(1,1),(2,1),(3,1),(4,1),(5,1),(6,1),(7,1),(8,1),(9,1),(10,1),(11,1),(12,1),(13,1),(14,1),(15,1),(16,1),(17,1),(18,1),(19,1),(20,1),(21,1),(22,1),(23,1),(24,1),(25,1),(26,1),(27,1),(28,1),(29,1),(30,1),(31,1)]∧Program.concrete Tryz.prog 281=true:=by and_intros<;>kernel_rfl
@[go_sem] theorem JXt:Jm Tryz.prog 282=some 64∧QI Tryz.prog 282=some 64∧J2 Tryz.prog 282=some true∧Jz Tryz.prog 282=none∧QF Tryz.prog 282=none∧J9 Tryz.prog 282=false∧QR Tryz.prog 282=false∧QM Tryz.prog 282=some (64,1)∧QH Tryz.prog 282=some (64,1,false)∧QN Tryz.prog 282=none∧Program.concrete Tryz.prog 282=true:=by and_intros<;>kernel_rfl
@[go_sem] theorem JYL:JH4 Tryz.prog 86=true:=by kernel_rfl
@[go_sem] theorem JYI:Qf Tryz.prog 25 0=some (0,1)∧Qf Tryz.prog 25 1=some (1,1)∧Qf Tryz.prog 31 0=some (0,1)∧Qf Tryz.prog 31 1=some (1,1)∧Qf Tryz.prog 34 0=some (0,1)∧Qf Tryz.prog 34 1=some (1,1)∧Qf Tryz.prog 34 2=some (2,1)∧Qf Tryz.prog 48 0=some (0,1)∧Qf Tryz.prog 48 1=some (1,1)∧Qf Tryz.prog 68 0=some (0,1)∧Qf Tryz.prog 68 1=some (1,1)∧Qf Tryz.prog 70 0=some (0,1)∧Qf Tryz.prog 70 1=some (1,1)∧Qf Tryz.prog 70 2=some (2,1)∧Qf Tryz.prog 88 0=some (0,1)∧Qf Tryz.prog 88 1=some (1,1)∧Qf Tryz.prog 90 0=some (0,2)∧Qf Tryz.prog 96 0=some (0,1)∧Qf Tryz.prog 96 1=some (1,1)∧Qf Tryz.prog 105 2=some (2,1)∧Qf Tryz.prog 105 3=some (3,1)∧Qf Tryz.prog 107 0=some (0,1)∧Qf Tryz.prog 107 1=some (1,1)∧Qf Tryz.prog 112 0=some (0,3)∧Qf Tryz.prog 112 1=some (3,1)∧Qf Tryz.prog 122 0=some (0,1)∧Qf Tryz.prog 122 1=some (1,1)∧Qf Tryz.prog 122 2=some (2,1)∧Qf Tryz.prog 124 0=some (0,3)∧Qf Tryz.prog 124 1=some (3,1)∧Qf Tryz.prog 124 2=some (4,1)∧Qf Tryz.prog 124 3=some (5,1)∧Qf Tryz.prog 137 0=some (0,1)∧Qf Tryz.prog 137 1=some (1,1)∧Qf Tryz.prog 146 0=some (0,1)∧Qf Tryz.prog 146 1=some (1,1)∧Qf Tryz.prog 146 2=some (2,1)∧Qf Tryz.prog 172 0=some (0,1)∧Qf Tryz.prog 185 0=some (0,1)∧Qf Tryz.prog 185 1=some (1,1)∧Qf Tryz.prog 187 0=some (0,1)∧Qf Tryz.prog 189 0=some (0,1)∧Qf Tryz.prog 189 1=some (1,1)∧Qf Tryz.prog 278 0=some (0,1)∧Qf Tryz.prog 278 1=some (1,1):=by and_intros<;>kernel_rfl
@[go_sem] theorem JYF:JN Tryz.prog 1=false∧JN Tryz.prog 13=true∧JN Tryz.prog 14=true∧JN Tryz.prog 15=true∧JN Tryz.prog 16=true∧JN Tryz.prog 17=true∧JN Tryz.prog 18=true∧JN Tryz.prog 19=true∧JN Tryz.prog 20=true∧JN Tryz.prog 21=true∧JN Tryz.prog 22=true∧JN Tryz.prog 23=true∧JN Tryz.prog 24=true∧JN Tryz.prog 25=true∧JN Tryz.prog 26=true∧JN Tryz.prog 27=true∧JN Tryz.prog 28=true∧JN Tryz.prog 29=true∧JN Tryz.prog 30=true∧JN Tryz.prog 31=true∧JN Tryz.prog 32=true∧JN Tryz.prog 33=true∧JN Tryz.prog 34=true∧JN Tryz.prog 35=true∧JN Tryz.prog 36=true∧JN Tryz.prog 37=true∧JN Tryz.prog 38=true∧JN Tryz.prog 39=true∧JN Tryz.prog 40=true∧JN Tryz.prog 41=true∧JN Tryz.prog 42=true∧JN Tryz.prog 43=true∧JN Tryz.prog 44=true∧JN Tryz.prog 45=true∧JN Tryz.prog 46=true∧JN Tryz.prog 47=true∧JN Tryz.prog 48=true∧JN Tryz.prog 49=true∧JN Tryz.prog 50=true∧JN Tryz.prog 51=true∧JN Tryz.prog 52=true∧JN Tryz.prog 53=true∧JN Tryz.prog 54=true∧JN Tryz.prog 55=true∧JN Tryz.prog 56=true∧JN Tryz.prog 57=true∧JN Tryz.prog 58=true∧JN Tryz.prog 59=true∧JN Tryz.prog 60=true∧JN Tryz.prog 61=true∧JN Tryz.prog 62=true∧JN Tryz.prog 63=true∧JN Tryz.prog 64=true∧JN Tryz.prog 65=true∧JN Tryz.prog 66=true∧JN Tryz.prog 67=true∧JN Tryz.prog 68=true∧JN Tryz.prog 69=true∧JN Tryz.prog 70=true∧JN Tryz.prog 71=true∧JN Tryz.prog 72=true∧JN Tryz.prog 73=true∧JN Tryz.prog 74=true∧JN Tryz.prog 75=true∧JN Tryz.prog 76=true∧JN Tryz.prog 77=true∧JN Tryz.prog 78=true∧JN Tryz.prog 79=true∧JN Tryz.prog 80=true∧JN Tryz.prog 81=true∧JN Tryz.prog 82=true∧JN Tryz.prog 83=true∧JN Tryz.prog 84=true∧JN Tryz.prog 85=true∧JN Tryz.prog 86=true∧JN Tryz.prog 87=true∧JN Tryz.prog 88=true∧JN Tryz.prog 89=true∧JN Tryz.prog 90=true∧JN Tryz.prog 91=true∧JN Tryz.prog 92=true∧JN Tryz.prog 93=true∧JN Tryz.prog 94=true∧JN Tryz.prog 95=true∧JN Tryz.prog 96=true∧JN Tryz.prog 97=true∧JN Tryz.prog 98=true∧JN Tryz.prog 99=true∧JN Tryz.prog 100=true∧JN Tryz.prog 101=true∧JN Tryz.prog 102=true∧JN Tryz.prog 103=true∧JN Tryz.prog 104=true∧JN Tryz.prog 105=true∧JN Tryz.prog 106=true∧JN Tryz.prog 107=true∧JN Tryz.prog 108=true∧JN Tryz.prog 109=true∧JN Tryz.prog 110=true∧JN Tryz.prog 111=true∧JN Tryz.prog 112=true∧JN Tryz.prog 113=true∧JN Tryz.prog 114=true∧JN Tryz.prog 115=true∧JN Tryz.prog 116=true∧JN Tryz.prog 117=true∧JN Tryz.prog 118=true∧JN Tryz.prog 119=true∧JN Tryz.prog 120=true∧JN Tryz.prog 121=true∧JN Tryz.prog 122=true∧JN Tryz.prog 123=true∧JN Tryz.prog 124=true∧JN Tryz.prog 125=true∧JN Tryz.prog 126=true∧JN Tryz.prog 127=true∧JN Tryz.prog 128=true∧JN Tryz.prog 129=true∧JN Tryz.prog 130=true∧JN Tryz.prog 131=true∧JN Tryz.prog 132=true∧JN Tryz.prog 133=true∧JN Tryz.prog 134=true∧JN Tryz.prog 135=true∧JN Tryz.prog 136=true∧JN Tryz.prog 137=true∧JN Tryz.prog 138=true∧JN Tryz.prog 139=true∧JN Tryz.prog 140=true∧JN Tryz.prog 141=true∧JN Tryz.prog 142=true∧JN Tryz.prog 143=true∧JN Tryz.prog 144=true∧JN Tryz.prog 146=true∧JN Tryz.prog 147=true∧JN Tryz.prog 148=true∧JN Tryz.prog 149=true∧JN Tryz.prog 150=true∧JN Tryz.prog 151=true∧JN Tryz.prog 152=true∧JN Tryz.prog 153=true∧JN Tryz.prog 154=true∧JN Tryz.prog 155=true∧JN Tryz.prog 156=true∧JN Tryz.prog 157=true∧JN Tryz.prog 158=true∧JN Tryz.prog 159=true∧JN Tryz.prog 160=true∧JN Tryz.prog 161=true∧JN Tryz.prog 162=true∧JN Tryz.prog 163=true∧JN Tryz.prog 164=true∧JN Tryz.prog 165=true∧JN Tryz.prog 166=true∧JN Tryz.prog 167=true∧JN Tryz.prog 168=true∧JN Tryz.prog 169=true∧JN Tryz.prog 170=true∧JN Tryz.prog 171=true∧JN Tryz.prog 172=true∧JN Tryz.prog 173=true∧JN Tryz.prog 174=true∧JN Tryz.prog 179=false∧JN Tryz.prog 180=true∧JN Tryz.prog 181=true∧JN Tryz.prog 182=true∧JN Tryz.prog 183=true∧JN Tryz.prog 184=true∧JN Tryz.prog 185=true∧JN Tryz.prog 186=true∧JN Tryz.prog 187=true∧JN Tryz.prog 188=true∧JN Tryz.prog 189=true∧JN Tryz.prog 190=true∧JN Tryz.prog 191=true∧JN Tryz.prog 192=true∧JN Tryz.prog 193=true∧JN Tryz.prog 194=true∧JN Tryz.prog 195=true∧JN Tryz.prog 196=true∧JN Tryz.prog 197=false∧JN Tryz.prog 198=true∧JN Tryz.prog 199=true∧JN Tryz.prog 200=true∧JN Tryz.prog 205=true∧JN Tryz.prog 206=false∧JN Tryz.prog 207=true∧JN Tryz.prog 208=true∧JN Tryz.prog 209=true∧JN Tryz.prog 210=true∧JN Tryz.prog 211=true∧JN Tryz.prog 212=true∧JN Tryz.prog 213=true∧JN Tryz.prog 214=true∧JN Tryz.prog 215=false∧JN Tryz.prog 216=true∧JN Tryz.prog 218=true∧JN Tryz.prog 219=true∧JN Tryz.prog 220=true∧JN Tryz.prog 241=true∧JN Tryz.prog 246=true:=by and_intros<;>kernel_rfl
@[go_sem] theorem JYK:JDj Tryz.prog 9=none∧JDj Tryz.prog 221=some (3,29)∧JDj Tryz.prog 222=some (3,34):=by and_intros<;>kernel_rfl
@[go_sem] theorem JYJ:JWK Tryz.prog 3=some 0:=by kernel_rfl
@[go_sem] theorem JYG:JHY Tryz.prog 172=false∧JHY Tryz.prog 185=false∧JHY Tryz.prog 187=false∧JHY Tryz.prog 189=false:=by and_intros<;>kernel_rfl
@[go_sem] theorem JYH:JBW Tryz.prog 9 "meterworks/card.made" = none∧JBW Tryz.prog 172 "meterworks/card.made" = none∧JBW Tryz.prog 185 "meterworks/card.made" = some 239∧JBW Tryz.prog 187 "meterworks/card.made" = some 240∧JBW Tryz.prog 189 "meterworks/card.made" = some 242∧JBW Tryz.prog 284 "meterworks/card.made" = none:=by and_intros<;>kernel_rfl
end Go.Mw
namespace Go.Proofs
open Go.Shelf
def Tryz.lays100_ren:Go.Shelf.Ren:=⟨fun|100=>106|207=>147|n=>n,fun|9=>9|4=>4|3=>3|n=>n,fun|n=>n⟩
theorem Tryz.lays100:Go.Proofs.Lays.n100 Tryz.prog Tryz.lays100_ren where
 mixed:=by kernel_rfl
 f100:=Tryz.func106.trans (congrArg some JI)
 f207:=Tryz.func147.trans (congrArg some JI)
 t3:=Tryz.underlying3
 a3:=Tryz.isAgg3
 z3:=Tryz.sizeOf3
 v3:=Tryz.zeroValue3
 t4:=Tryz.underlying4
 a4:=Tryz.isAgg4
 z4:=Tryz.sizeOf4
 v4:=Tryz.zeroValue4
 t9:=Tryz.underlying9
 a9:=Tryz.isAgg9
 z9:=Tryz.sizeOf9
 v9:=Tryz.zeroValue9
def Tryz.lays102_ren:Go.Shelf.Ren:=⟨fun|102=>108|209=>149|207=>147|n=>n,fun|9=>9|4=>4|3=>3|n=>n,fun|n=>n⟩
theorem Tryz.lays102:Go.Proofs.Lays.n102 Tryz.prog Tryz.lays102_ren where
 mixed:=by kernel_rfl
 f102:=Tryz.func108.trans (congrArg some JI)
 f207:=Tryz.func147.trans (congrArg some JI)
 f209:=Tryz.func149.trans (congrArg some JI)
 t3:=Tryz.underlying3
 a3:=Tryz.isAgg3
 z3:=Tryz.sizeOf3
 v3:=Tryz.zeroValue3
 t4:=Tryz.underlying4
 a4:=Tryz.isAgg4
 z4:=Tryz.sizeOf4
 v4:=Tryz.zeroValue4
 t9:=Tryz.underlying9
 a9:=Tryz.isAgg9
 z9:=Tryz.sizeOf9
 v9:=Tryz.zeroValue9
def Tryz.lays105_ren:Go.Shelf.Ren:=⟨fun|105=>131|212=>164|99=>165|165=>133|166=>103|170=>166|169=>50|263=>194|264=>195|206=>196|240=>146|241=>167|276=>179|277=>197|n=>n,fun|9=>9|3=>3|4=>4|20=>20|0=>0|46=>200|109=>232|5=>5|72=>88|76=>167|51=>258|146=>262|53=>245|148=>264|70=>86|37=>53|75=>166|127=>170|164=>250|80=>97|n=>n,fun|n=>n⟩
theorem Tryz.lays105:Go.Proofs.Lays.n105 Tryz.prog Tryz.lays105_ren where
 mixed:=by kernel_rfl
 f99:=Tryz.func165.trans (congrArg some JI)
 f105:=Tryz.func131.trans (congrArg some JI)
 f165:=Tryz.func133.trans (congrArg some JI)
 f166:=Tryz.func103.trans (congrArg some JI)
 f169:=Tryz.func50.trans (congrArg some JI)
 f170:=Tryz.func166.trans (congrArg some JI)
 f206:=Tryz.func196.trans (congrArg some JI)
 f212:=Tryz.func164.trans (congrArg some JI)
 f240:=Tryz.func146.trans (congrArg some JI)
 f241:=Tryz.func167.trans (congrArg some JI)
 f263:=Tryz.func194.trans (congrArg some JI)
 f264:=Tryz.func195.trans (congrArg some JI)
 f276:=Tryz.func179.trans (congrArg some JI)
 f277:=Tryz.func197.trans (congrArg some JI)
 t0:=Tryz.underlying0
 a0:=Tryz.isAgg0
 z0:=Tryz.sizeOf0
 v0:=Tryz.zeroValue0
 t3:=Tryz.underlying3
 a3:=Tryz.isAgg3
 z3:=Tryz.sizeOf3
 v3:=Tryz.zeroValue3
 t4:=Tryz.underlying4
 a4:=Tryz.isAgg4
 z4:=Tryz.sizeOf4
 v4:=Tryz.zeroValue4
 t5:=Tryz.underlying5
 a5:=Tryz.isAgg5
 z5:=Tryz.sizeOf5
 v5:=Tryz.zeroValue5
 t9:=Tryz.underlying9
 a9:=Tryz.isAgg9
 z9:=Tryz.sizeOf9
 v9:=Tryz.zeroValue9
 t20:=Tryz.underlying20
 a20:=Tryz.isAgg20
 z20:=Tryz.sizeOf20
 v20:=Tryz.zeroValue20
 t37:=Tryz.underlying53
 a37:=Tryz.isAgg53
 z37:=Tryz.sizeOf53
 v37:=Tryz.zeroValue53
 t46:=Tryz.underlying200
 a46:=Tryz.isAgg200
 z46:=Tryz.sizeOf200
 v46:=Tryz.zeroValue200
 t51:=Tryz.underlying258
 a51:=Tryz.isAgg258
 z51:=Tryz.sizeOf258
 v51:=Tryz.zeroValue258
 t53:=Tryz.underlying245
 a53:=Tryz.isAgg245
 z53:=Tryz.sizeOf245
 v53:=Tryz.zeroValue245
 t70:=Tryz.underlying86
 a70:=Tryz.isAgg86
 z70:=Tryz.sizeOf86
 v70:=Tryz.zeroValue86
 t72:=Tryz.underlying88
 a72:=Tryz.isAgg88
 z72:=Tryz.sizeOf88
 v72:=Tryz.zeroValue88
 t75:=Tryz.underlying166
 a75:=Tryz.isAgg166
 z75:=Tryz.sizeOf166
 v75:=Tryz.zeroValue166
 t76:=Tryz.underlying167
 a76:=Tryz.isAgg167
 z76:=Tryz.sizeOf167
 v76:=Tryz.zeroValue167
 t109:=Tryz.underlying232
 a109:=Tryz.isAgg232
 z109:=Tryz.sizeOf232
 v109:=Tryz.zeroValue232
 t127:=Tryz.underlying170
 a127:=Tryz.isAgg170
 z127:=Tryz.sizeOf170
 v127:=Tryz.zeroValue170
 t146:=Tryz.underlying262
 a146:=Tryz.isAgg262
 z146:=Tryz.sizeOf262
 v146:=Tryz.zeroValue262
 t148:=Tryz.underlying264
 a148:=Tryz.isAgg264
 z148:=Tryz.sizeOf264
 v148:=Tryz.zeroValue264
 t164:=Tryz.underlying250
 a164:=Tryz.isAgg250
 z164:=Tryz.sizeOf250
 v164:=Tryz.zeroValue250
def Tryz.lays125_ren:Go.Shelf.Ren:=⟨fun|125=>156|128=>187|129=>188|n=>n,fun|46=>200|3=>3|51=>258|53=>245|4=>4|5=>5|9=>9|n=>n,fun|n=>n⟩
theorem Tryz.lays125:Go.Proofs.Lays.n125 Tryz.prog Tryz.lays125_ren where
 mixed:=by kernel_rfl
 f125:=Tryz.func156.trans (congrArg some JI)
 f128:=Tryz.func187.trans (congrArg some JI)
 f129:=Tryz.func188.trans (congrArg some JI)
 t3:=Tryz.underlying3
 a3:=Tryz.isAgg3
 z3:=Tryz.sizeOf3
 v3:=Tryz.zeroValue3
 t4:=Tryz.underlying4
 a4:=Tryz.isAgg4
 z4:=Tryz.sizeOf4
 v4:=Tryz.zeroValue4
 t5:=Tryz.underlying5
 a5:=Tryz.isAgg5
 z5:=Tryz.sizeOf5
 v5:=Tryz.zeroValue5
 t9:=Tryz.underlying9
 a9:=Tryz.isAgg9
 z9:=Tryz.sizeOf9
 v9:=Tryz.zeroValue9
 t46:=Tryz.underlying200
 a46:=Tryz.isAgg200
 z46:=Tryz.sizeOf200
 v46:=Tryz.zeroValue200
 t51:=Tryz.underlying258
 a51:=Tryz.isAgg258
 z51:=Tryz.sizeOf258
 v51:=Tryz.zeroValue258
 t53:=Tryz.underlying245
 a53:=Tryz.isAgg245
 z53:=Tryz.sizeOf245
 v53:=Tryz.zeroValue245
def Tryz.lays145_ren:Go.Shelf.Ren:=⟨fun|145=>150|220=>183|219=>207|217=>214|225=>215|224=>216|267=>217|266=>221|314=>222|n=>n,fun|9=>9|4=>4|59=>218|3=>3|5=>5|46=>200|146=>262|51=>258|n=>n,fun|1=>2|n=>n⟩
theorem Tryz.lays145:Go.Proofs.LaysM.n145 Tryz.prog Tryz.lays145_ren where
 mixed:=by kernel_rfl
 f145:=Tryz.func150.trans (congrArg some JI)
 f217:=Tryz.func214.trans (congrArg some JI)
 f219:=Tryz.func207.trans (congrArg some JI)
 f220:=Tryz.func183.trans (congrArg some JI)
 f224:=Tryz.func216.trans (congrArg some JI)
 f225:=Tryz.func215.trans (congrArg some JI)
 f266:=Tryz.func221.trans (congrArg some JI)
 f267:=Tryz.func217.trans (congrArg some JI)
 f314:=Tryz.func222.trans (congrArg some JI)
 t3:=Tryz.underlying3
 a3:=Tryz.isAgg3
 z3:=Tryz.sizeOf3
 v3:=Tryz.zeroValue3
 t4:=Tryz.underlying4
 a4:=Tryz.isAgg4
 z4:=Tryz.sizeOf4
 v4:=Tryz.zeroValue4
 t5:=Tryz.underlying5
 a5:=Tryz.isAgg5
 z5:=Tryz.sizeOf5
 v5:=Tryz.zeroValue5
 t9:=Tryz.underlying9
 a9:=Tryz.isAgg9
 z9:=Tryz.sizeOf9
 v9:=Tryz.zeroValue9
 t46:=Tryz.underlying200
 a46:=Tryz.isAgg200
 z46:=Tryz.sizeOf200
 v46:=Tryz.zeroValue200
 t51:=Tryz.underlying258
 a51:=Tryz.isAgg258
 z51:=Tryz.sizeOf258
 v51:=Tryz.zeroValue258
 t59:=Tryz.underlying218
 a59:=Tryz.isAgg218
 z59:=Tryz.sizeOf218
 v59:=Tryz.zeroValue218
 t146:=Tryz.underlying262
 a146:=Tryz.isAgg262
 z146:=Tryz.sizeOf262
 v146:=Tryz.zeroValue262
 g1:=by kernel_rfl
 i3:=by kernel_rfl
 i4:=by kernel_rfl
 i5:=by kernel_rfl
 i9:=by kernel_rfl
 i46:=by kernel_rfl
 i51:=by kernel_rfl
 i59:=by kernel_rfl
 i146:=by kernel_rfl
 m1:=by kernel_rfl
 s1_3:=fun w h=>Go.Proofs.cell_of_shapedOpen_int (zero:=#[.int .i64 0]) (t:=3) h (of_decide_eq_true JI) JI rfl JI JI Tryz.underlying3
def Tryz.lays146_ren:Go.Shelf.Ren:=⟨fun|146=>107|221=>148|268=>180|138=>181|143=>182|195=>205|197=>199|218=>206|219=>207|260=>210|217=>214|225=>215|224=>216|267=>217|266=>221|314=>222|n=>n,fun|9=>9|31=>92|3=>3|4=>4|0=>0|105=>268|21=>21|5=>5|46=>200|119=>276|139=>279|138=>278|146=>262|51=>258|n=>n,fun|1=>2|3=>3|4=>4|n=>n⟩
theorem Tryz.lays146:Go.Proofs.LaysM.n146 Tryz.prog Tryz.lays146_ren where
 mixed:=by kernel_rfl
 f138:=Tryz.func181.trans (congrArg some JI)
 f143:=Tryz.func182.trans (congrArg some JI)
 f146:=Tryz.func107.trans (congrArg some JI)
 f195:=Tryz.func205.trans (congrArg some JI)
 f197:=Tryz.func199.trans (congrArg some JI)
 f217:=Tryz.func214.trans (congrArg some JI)
 f218:=Tryz.func206.trans (congrArg some JI)
 f219:=Tryz.func207.trans (congrArg some JI)
 f221:=Tryz.func148.trans (congrArg some JI)
 f224:=Tryz.func216.trans (congrArg some JI)
 f225:=Tryz.func215.trans (congrArg some JI)
 f260:=Tryz.func210.trans (congrArg some JI)
 f266:=Tryz.func221.trans (congrArg some JI)
 f267:=Tryz.func217.trans (congrArg some JI)
 f268:=Tryz.func180.trans (congrArg some JI)
 f314:=Tryz.func222.trans (congrArg some JI)
 t0:=Tryz.underlying0
 a0:=Tryz.isAgg0
 z0:=Tryz.sizeOf0
 v0:=Tryz.zeroValue0
 t3:=Tryz.underlying3
 a3:=Tryz.isAgg3
 z3:=Tryz.sizeOf3
 v3:=Tryz.zeroValue3
 t4:=Tryz.underlying4
 a4:=Tryz.isAgg4
 z4:=Tryz.sizeOf4
 v4:=Tryz.zeroValue4
 t5:=Tryz.underlying5
 a5:=Tryz.isAgg5
 z5:=Tryz.sizeOf5
 v5:=Tryz.zeroValue5
 t9:=Tryz.underlying9
 a9:=Tryz.isAgg9
 z9:=Tryz.sizeOf9
 v9:=Tryz.zeroValue9
 t21:=Tryz.underlying21
 a21:=Tryz.isAgg21
 z21:=Tryz.sizeOf21
 v21:=Tryz.zeroValue21
 t31:=Tryz.underlying92
 a31:=Tryz.isAgg92
 z31:=Tryz.sizeOf92
 v31:=Tryz.zeroValue92
 t46:=Tryz.underlying200
 a46:=Tryz.isAgg200
 z46:=Tryz.sizeOf200
 v46:=Tryz.zeroValue200
 t51:=Tryz.underlying258
 a51:=Tryz.isAgg258
 z51:=Tryz.sizeOf258
 v51:=Tryz.zeroValue258
 t105:=Tryz.underlying268
 a105:=Tryz.isAgg268
 z105:=Tryz.sizeOf268
 v105:=Tryz.zeroValue268
 t119:=Tryz.underlying276
 a119:=Tryz.isAgg276
 z119:=Tryz.sizeOf276
 t138:=Tryz.underlying278
 a138:=Tryz.isAgg278
 z138:=Tryz.sizeOf278
 v138:=Tryz.zeroValue278
 t139:=Tryz.underlying279
 a139:=Tryz.isAgg279
 z139:=Tryz.sizeOf279
 v139:=Tryz.zeroValue279
 t146:=Tryz.underlying262
 a146:=Tryz.isAgg262
 z146:=Tryz.sizeOf262
 v146:=Tryz.zeroValue262
 g1:=by kernel_rfl
 g3:=by kernel_rfl
 g4:=by kernel_rfl
 i0:=by kernel_rfl
 i3:=by kernel_rfl
 i4:=by kernel_rfl
 i5:=by kernel_rfl
 i9:=by kernel_rfl
 i21:=by kernel_rfl
 i31:=by kernel_rfl
 i46:=by kernel_rfl
 i51:=by kernel_rfl
 i105:=by kernel_rfl
 i138:=by kernel_rfl
 i139:=by kernel_rfl
 i146:=by kernel_rfl
 m1:=by kernel_rfl
 s1_3:=fun w h=>Go.Proofs.cell_of_shapedOpen_int (zero:=#[.int .i64 0]) (t:=3) h (of_decide_eq_true JI) JI rfl JI JI Tryz.underlying3
 m3:=by kernel_rfl
 m4:=by kernel_rfl
def Tryz.lays156_ren:Go.Shelf.Ren:=⟨fun|156=>84|165=>133|166=>103|169=>50|240=>146|241=>167|276=>179|277=>197|n=>n,fun|31=>92|9=>9|3=>3|4=>4|0=>0|20=>20|72=>88|76=>167|70=>86|37=>53|75=>166|127=>170|164=>250|5=>5|80=>97|n=>n,fun|n=>n⟩
theorem Tryz.lays156:Go.Proofs.Lays.n156 Tryz.prog Tryz.lays156_ren where
 mixed:=by kernel_rfl
 f156:=Tryz.func84.trans (congrArg some JI)
 f165:=Tryz.func133.trans (congrArg some JI)
 f166:=Tryz.func103.trans (congrArg some JI)
 f169:=Tryz.func50.trans (congrArg some JI)
 f240:=Tryz.func146.trans (congrArg some JI)
 f241:=Tryz.func167.trans (congrArg some JI)
 f276:=Tryz.func179.trans (congrArg some JI)
 f277:=Tryz.func197.trans (congrArg some JI)
 t0:=Tryz.underlying0
 a0:=Tryz.isAgg0
 z0:=Tryz.sizeOf0
 v0:=Tryz.zeroValue0
 t3:=Tryz.underlying3
 a3:=Tryz.isAgg3
 z3:=Tryz.sizeOf3
 v3:=Tryz.zeroValue3
 t4:=Tryz.underlying4
 a4:=Tryz.isAgg4
 z4:=Tryz.sizeOf4
 v4:=Tryz.zeroValue4
 t9:=Tryz.underlying9
 a9:=Tryz.isAgg9
 z9:=Tryz.sizeOf9
 v9:=Tryz.zeroValue9
 t20:=Tryz.underlying20
 a20:=Tryz.isAgg20
 z20:=Tryz.sizeOf20
 v20:=Tryz.zeroValue20
 t31:=Tryz.underlying92
 a31:=Tryz.isAgg92
 z31:=Tryz.sizeOf92
 v31:=Tryz.zeroValue92
 t37:=Tryz.underlying53
 a37:=Tryz.isAgg53
 z37:=Tryz.sizeOf53
 v37:=Tryz.zeroValue53
 t70:=Tryz.underlying86
 a70:=Tryz.isAgg86
 z70:=Tryz.sizeOf86
 v70:=Tryz.zeroValue86
 t72:=Tryz.underlying88
 a72:=Tryz.isAgg88
 z72:=Tryz.sizeOf88
 v72:=Tryz.zeroValue88
 t75:=Tryz.underlying166
 a75:=Tryz.isAgg166
 z75:=Tryz.sizeOf166
 v75:=Tryz.zeroValue166
 t76:=Tryz.underlying167
 a76:=Tryz.isAgg167
 z76:=Tryz.sizeOf167
 v76:=Tryz.zeroValue167
 t127:=Tryz.underlying170
 a127:=Tryz.isAgg170
 z127:=Tryz.sizeOf170
 v127:=Tryz.zeroValue170
 t164:=Tryz.underlying250
 a164:=Tryz.isAgg250
 z164:=Tryz.sizeOf250
 v164:=Tryz.zeroValue250
def Tryz.lays161_ren:Go.Shelf.Ren:=⟨fun|161=>136|231=>168|227=>169|233=>170|235=>171|228=>198|197=>199|151=>200|260=>210|152=>211|137=>219|119=>220|224=>216|225=>215|217=>214|266=>221|n=>n,fun|9=>9|4=>4|3=>3|5=>5|117=>237|116=>236|0=>0|124=>240|105=>268|21=>21|119=>276|46=>200|139=>279|138=>278|n=>n,fun|3=>3|4=>4|n=>n⟩
theorem Tryz.lays161:Go.Proofs.Lays.n161 Tryz.prog Tryz.lays161_ren where
 mixed:=by kernel_rfl
 f119:=Tryz.func220.trans (congrArg some JI)
 f137:=Tryz.func219.trans (congrArg some JI)
 f151:=Tryz.func200.trans (congrArg some JI)
 f152:=Tryz.func211.trans (congrArg some JI)
 f161:=Tryz.func136.trans (congrArg some JI)
 f197:=Tryz.func199.trans (congrArg some JI)
 f217:=Tryz.func214.trans (congrArg some JI)
 f224:=Tryz.func216.trans (congrArg some JI)
 f225:=Tryz.func215.trans (congrArg some JI)
 f227:=Tryz.func169.trans (congrArg some JI)
 f228:=Tryz.func198.trans (congrArg some JI)
 f231:=Tryz.func168.trans (congrArg some JI)
 f233:=Tryz.func170.trans (congrArg some JI)
 f235:=Tryz.func171.trans (congrArg some JI)
 f260:=Tryz.func210.trans (congrArg some JI)
 f266:=Tryz.func221.trans (congrArg some JI)
 t0:=Tryz.underlying0
 a0:=Tryz.isAgg0
 z0:=Tryz.sizeOf0
 v0:=Tryz.zeroValue0
 t3:=Tryz.underlying3
 a3:=Tryz.isAgg3
 z3:=Tryz.sizeOf3
 v3:=Tryz.zeroValue3
 t4:=Tryz.underlying4
 a4:=Tryz.isAgg4
 z4:=Tryz.sizeOf4
 v4:=Tryz.zeroValue4
 t5:=Tryz.underlying5
 a5:=Tryz.isAgg5
 z5:=Tryz.sizeOf5
 v5:=Tryz.zeroValue5
 t9:=Tryz.underlying9
 a9:=Tryz.isAgg9
 z9:=Tryz.sizeOf9
 v9:=Tryz.zeroValue9
 t21:=Tryz.underlying21
 a21:=Tryz.isAgg21
 z21:=Tryz.sizeOf21
 v21:=Tryz.zeroValue21
 t46:=Tryz.underlying200
 a46:=Tryz.isAgg200
 z46:=Tryz.sizeOf200
 v46:=Tryz.zeroValue200
 t105:=Tryz.underlying268
 a105:=Tryz.isAgg268
 z105:=Tryz.sizeOf268
 v105:=Tryz.zeroValue268
 t116:=Tryz.underlying236
 a116:=Tryz.isAgg236
 z116:=Tryz.sizeOf236
 t117:=Tryz.underlying237
 a117:=Tryz.isAgg237
 z117:=Tryz.sizeOf237
 v117:=Tryz.zeroValue237
 t119:=Tryz.underlying276
 a119:=Tryz.isAgg276
 z119:=Tryz.sizeOf276
 t124:=Tryz.underlying240
 a124:=Tryz.isAgg240
 z124:=Tryz.sizeOf240
 v124:=Tryz.zeroValue240
 t138:=Tryz.underlying278
 a138:=Tryz.isAgg278
 z138:=Tryz.sizeOf278
 v138:=Tryz.zeroValue278
 t139:=Tryz.underlying279
 a139:=Tryz.isAgg279
 z139:=Tryz.sizeOf279
 v139:=Tryz.zeroValue279
 g3:=by kernel_rfl
 g4:=by kernel_rfl
def Tryz.lays171_ren:Go.Shelf.Ren:=⟨fun|171=>46|243=>102|246=>145|283=>175|284=>176|285=>177|286=>178|129=>188|317=>201|318=>202|319=>203|320=>204|337=>212|338=>213|n=>n,fun|3=>3|9=>9|2=>2|4=>4|171=>244|0=>0|53=>245|37=>53|5=>5|173=>248|212=>272|51=>258|20=>20|213=>273|46=>200|232=>281|233=>282|n=>n,fun|17=>1|18=>5|19=>6|n=>n⟩
theorem Tryz.lays171:Go.Proofs.LaysM.n171 Tryz.prog Tryz.lays171_ren where
 mixed:=by kernel_rfl
 f129:=Tryz.func188.trans (congrArg some JI)
 f171:=Tryz.func46.trans (congrArg some JI)
 f243:=Tryz.func102.trans (congrArg some JI)
 f246:=Tryz.func145.trans (congrArg some JI)
 f283:=Tryz.func175.trans (congrArg some JI)
 f284:=Tryz.func176.trans (congrArg some JI)
 f285:=Tryz.func177.trans (congrArg some JI)
 f286:=Tryz.func178.trans (congrArg some JI)
 f317:=Tryz.func201.trans (congrArg some JI)
 f318:=Tryz.func202.trans (congrArg some JI)
 f319:=Tryz.func203.trans (congrArg some JI)
 f320:=Tryz.func204.trans (congrArg some JI)
 f337:=Tryz.func212.trans (congrArg some JI)
 f338:=Tryz.func213.trans (congrArg some JI)
 t0:=Tryz.underlying0
 a0:=Tryz.isAgg0
 z0:=Tryz.sizeOf0
 v0:=Tryz.zeroValue0
 t2:=Tryz.underlying2
 a2:=Tryz.isAgg2
 z2:=Tryz.sizeOf2
 v2:=Tryz.zeroValue2
 t3:=Tryz.underlying3
 a3:=Tryz.isAgg3
 z3:=Tryz.sizeOf3
 v3:=Tryz.zeroValue3
 t4:=Tryz.underlying4
 a4:=Tryz.isAgg4
 z4:=Tryz.sizeOf4
 v4:=Tryz.zeroValue4
 t5:=Tryz.underlying5
 a5:=Tryz.isAgg5
 z5:=Tryz.sizeOf5
 v5:=Tryz.zeroValue5
 t9:=Tryz.underlying9
 a9:=Tryz.isAgg9
 z9:=Tryz.sizeOf9
 v9:=Tryz.zeroValue9
 t20:=Tryz.underlying20
 a20:=Tryz.isAgg20
 z20:=Tryz.sizeOf20
 v20:=Tryz.zeroValue20
 t37:=Tryz.underlying53
 a37:=Tryz.isAgg53
 z37:=Tryz.sizeOf53
 v37:=Tryz.zeroValue53
 t46:=Tryz.underlying200
 a46:=Tryz.isAgg200
 z46:=Tryz.sizeOf200
 v46:=Tryz.zeroValue200
 t51:=Tryz.underlying258
 a51:=Tryz.isAgg258
 z51:=Tryz.sizeOf258
 v51:=Tryz.zeroValue258
 t53:=Tryz.underlying245
 a53:=Tryz.isAgg245
 z53:=Tryz.sizeOf245
 v53:=Tryz.zeroValue245
 t171:=Tryz.underlying244
 a171:=Tryz.isAgg244
 z171:=Tryz.sizeOf244
 v171:=Tryz.zeroValue244
 t173:=Tryz.underlying248
 a173:=Tryz.isAgg248
 z173:=Tryz.sizeOf248
 v173:=Tryz.zeroValue248
 t212:=Tryz.underlying272
 a212:=Tryz.isAgg272
 z212:=Tryz.sizeOf272
 v212:=Tryz.zeroValue272
 t213:=Tryz.underlying273
 a213:=Tryz.isAgg273
 z213:=Tryz.sizeOf273
 t232:=Tryz.underlying281
 a232:=Tryz.isAgg281
 z232:=Tryz.sizeOf281
 v232:=Tryz.zeroValue281
 t233:=Tryz.underlying282
 a233:=Tryz.isAgg282
 z233:=Tryz.sizeOf282
 v233:=Tryz.zeroValue282
 g17:=by kernel_rfl
 g18:=by kernel_rfl
 g19:=by kernel_rfl
 i0:=by kernel_rfl
 i2:=by kernel_rfl
 i3:=by kernel_rfl
 i4:=by kernel_rfl
 i5:=by kernel_rfl
 i9:=by kernel_rfl
 i20:=by kernel_rfl
 i37:=by kernel_rfl
 i46:=by kernel_rfl
 i51:=by kernel_rfl
 i53:=by kernel_rfl
 i171:=by kernel_rfl
 i173:=by kernel_rfl
 i212:=by kernel_rfl
 i232:=by kernel_rfl
 i233:=by kernel_rfl
 m17:=by kernel_rfl
 m18:=by kernel_rfl
 m19:=by kernel_rfl
def Tryz.lays290_ren:Go.Shelf.Ren:=⟨fun|290=>191|324=>209|n=>n,fun|37=>53|3=>3|0=>0|4=>4|20=>20|75=>166|5=>5|80=>97|9=>9|n=>n,fun|14=>0|n=>n⟩
theorem Tryz.lays290:Go.Proofs.LaysM.n290 Tryz.prog Tryz.lays290_ren where
 mixed:=by kernel_rfl
 f290:=Tryz.func191.trans (congrArg some JI)
 f324:=Tryz.func209.trans (congrArg some JI)
 t0:=Tryz.underlying0
 a0:=Tryz.isAgg0
 z0:=Tryz.sizeOf0
 v0:=Tryz.zeroValue0
 t3:=Tryz.underlying3
 a3:=Tryz.isAgg3
 z3:=Tryz.sizeOf3
 v3:=Tryz.zeroValue3
 t4:=Tryz.underlying4
 a4:=Tryz.isAgg4
 z4:=Tryz.sizeOf4
 v4:=Tryz.zeroValue4
 t20:=Tryz.underlying20
 a20:=Tryz.isAgg20
 z20:=Tryz.sizeOf20
 v20:=Tryz.zeroValue20
 t37:=Tryz.underlying53
 a37:=Tryz.isAgg53
 z37:=Tryz.sizeOf53
 v37:=Tryz.zeroValue53
 t75:=Tryz.underlying166
 a75:=Tryz.isAgg166
 z75:=Tryz.sizeOf166
 v75:=Tryz.zeroValue166
 g14:=by kernel_rfl
 t5:=Tryz.underlying5
 a5:=Tryz.isAgg5
 z5:=Tryz.sizeOf5
 v5:=Tryz.zeroValue5
 t9:=Tryz.underlying9
 a9:=Tryz.isAgg9
 z9:=Tryz.sizeOf9
 v9:=Tryz.zeroValue9
 t80:=Tryz.underlying97
 a80:=Tryz.isAgg97
 z80:=Tryz.sizeOf97
 v80:=Tryz.zeroValue97
 i0:=by kernel_rfl
 i3:=by kernel_rfl
 i4:=by kernel_rfl
 i5:=by kernel_rfl
 i9:=by kernel_rfl
 i20:=by kernel_rfl
 i37:=by kernel_rfl
 i75:=by kernel_rfl
 i80:=by kernel_rfl
 m14:=by kernel_rfl
end Go.Proofs
namespace Go.Proofs
open Go.Shelf
theorem Tryz.extra105:Builder.Extra Tryz.prog Tryz.lays105_ren where
 sizeBuilder:=by kernel_rfl
 liesBuilder:=by kernel_rfl
 t5:=Tryz.underlying5
 a5:=Tryz.isAgg5
 z5:=Tryz.sizeOf5
 v5:=Tryz.zeroValue5
 infoByte:=by kernel_rfl
 cellsByte:=by kernel_rfl
 sizeByte:=by kernel_rfl
 neB5:=by decide
theorem Tryz.extra156:Builder.Extra Tryz.prog Tryz.lays156_ren where
 sizeBuilder:=by kernel_rfl
 liesBuilder:=by kernel_rfl
 t5:=Tryz.underlying5
 a5:=Tryz.isAgg5
 z5:=Tryz.sizeOf5
 v5:=Tryz.zeroValue5
 infoByte:=by kernel_rfl
 cellsByte:=by kernel_rfl
 sizeByte:=by kernel_rfl
 neB5:=by decide
end Go.Proofs
namespace Go.Mw
open Go.Proofs Go.RowKit
section one
variable {S:Jd} {ι:Nat→Value} {H:Nat→Option AO} {w:World}
theorem JLI {a:Value}{vs:List Value}(h:JR (Jk S ι H w) [.raw a] vs):vs=[a]:=by
 match vs,h with
 |[v],h=>rw [Qa (Jn h.1)]
theorem JD8 {a b:Value}{vs:List Value}(h:JR (Jk S ι H w) [.raw a,.raw b] vs):vs=[a,b]:=by
 match vs,h with
 |[v,u],h=>rw [Qa (Jn h.1),Qa (Jn h.2.1)]
end one
theorem JCc {v:Value}(h:v.oneCell'=true):∀S ι H w,Jk S ι H w (.raw v) v:=fun S ι H w=>⟨_,rfl,RepD.raw v h⟩
theorem JLf (s p:List UInt8)(hs:s.length≤9223372036854775807):Ja Tryz.prog 106 [.str s,.str p] (.bool (Lib.hasSuffix s p)) []:=
 JCr fun S ι w vs hG hin h=>by
  rw [JD8 h]
  have:=Any.strings_HasSuffix Tryz.lays100 (bs s) (bs p) w (by rw [Zb];exact hs)
  rw [Zz,Zz] at this
  exact this.mono fun e w' ⟨he,hw⟩=>⟨_,he,JCc rfl,hw▸Below.refl _ _⟩
theorem JQd (s p:List UInt8)(hs:s.length≤9223372036854775807):Ja Tryz.prog 108 [.str s,.str p] (.str (Lib.trimSuffix s p)) []:=
 JCr fun S ι w vs hG hin h=>by
  rw [JD8 h]
  have:=Any.strings_TrimSuffix Tryz.lays102 (bs s) (bs p) w (by rw [Zb];exact hs)
  rw [Zz,Zz] at this
  exact this.mono fun e w' ⟨he,hw⟩=>⟨_,he,JCc rfl,hw▸Below.refl _ _⟩
theorem JQR (n:Int)(h0:-9223372036854775808≤n)(h1:n≤9223372036854775807)(g:Nat)(hg:Tryz.prog.globalNamed "internal/strconv.uint64pow10" = some g):Ja Tryz.prog 46 [.int n] (.str (Lib.itoa n)) []:=
 JCr fun S ι w vs hG hin h=>by
  rw [JLI h]
  have:=Any.strconv_Itoa Tryz.lays171 n h0 h1 w (hG.tab _ _ _ (by simp [JFo]) g hg).2
  exact this.mono fun e w' ⟨he,k,os,hw⟩=>⟨_,he,JCc rfl,by subst hw;exact Go.Lib.below_grow _ _ (Nat.le_refl _) _ _⟩
theorem JQY (s:List UInt8)(c:Nat)(hc:c≤9223372036854775807)(hl:s.length*c≤140737488355328):Ja Tryz.prog 131 [.str s,.int c] (.str (Lib.repeatL s c)) []:=
 JCr fun S ι w vs hG hin h=>by
  rw [JD8 h]
  have:=Any.strings_Repeat Tryz.lays105 Tryz.extra105 (bs s) c w hc (by rw [Zb];exact hl)
  rw [Zz] at this
  exact this.mono fun e w' ⟨he,hw⟩=>⟨_,he,JCc rfl,hw⟩
theorem JLg (xs:List (List UInt8))(sep:List UInt8)(hN:xs.length≤140737488355328)(hl:(Lib.join xs sep).length≤140737488355328) :
  Ja Tryz.prog 84 [.leaf (.d (.sl 1 (xs.map fun x=>[.raw (.string (bs x))]))),.str sep] (.str (Lib.join xs sep)) []:=
 JCr fun S ι w vs hG hin h=>by
  match vs,h with
  |[v,u],h=>
  have hu:=Qa (Jn h.2.1)
  have hv:RepD S w _ v:=Jn h.1
  subst hu
  have em:(xs.map bs).map (·.data.toList)=xs:=by
   rw [List.map_map,show ((fun x:ByteArray=>x.data.toList) ∘ bs)=id from funext fun x=>Zz x,List.map_id]
  generalize hes:(xs.map fun x=>[D.raw (.string (bs x))])=es at hv
  cases hv with
  |nil _ p c=>
   have:xs=[]:=by simpa using hes
   subst this
   have:=Any.strings_Join_none Tryz.lays156 Tryz.extra156 p c (bs sep) w
   exact this.mono fun e w' ⟨he,hw⟩=>⟨_,he,JCc rfl,hw▸Below.refl _ _⟩
  |sl _ _ b off c vals hc hk hS hw hr=>
   have hlen:es.length=(xs.map bs).length:=by rw [←hes];simp
   have hat:∀(j:Nat) (x:ByteArray),(xs.map bs)[j]? = some x→es[j]? = some [.raw (.string x)]:=fun j x hx=>by
    rw [←hes,List.getElem?_map]
    rw [List.getElem?_map] at hx
    cases hj:xs[j]? with
    |none=>simp [hj] at hx
    |some y=>simp only [hj,Option.map_some,Option.some.injEq] at hx ⊢;rw [hx]
   by_cases h0:xs=[]
   ·subst h0
    simp at hes;subst hes
    have:=Any.strings_Join_none Tryz.lays156 Tryz.extra156 (some ⟨b,off,none⟩) c (bs sep) w
    exact this.mono fun e w' ⟨he,hw⟩=>⟨_,he,JCc rfl,hw▸Below.refl _ _⟩
   have hb:b<w.heap.size:=by
    cases xs with
    |nil=>exact absurd rfl h0
    |cons y ys=>exact hin b _ (hS 0 _ 0 _ (hat 0 (bs y) rfl) rfl)
   have:=Any.strings_Join Tryz.lays156 Tryz.extra156 b off c (xs.map bs) (bs sep) w (fun j x hx=>by
    have h1:=hw j _ 0 _ (hat j x hx) rfl
    have h2:=Qa (hr j _ 0 _ (hat j x hx) rfl)
    rw [Nat.mul_one,Nat.add_zero] at h1
    rw [h1,h2]) hb (by simpa using hN) (by rw [←hlen];exact hc) (by rw [em,Zz];exact hl)
   rw [em,Zz,←hlen] at this
   exact this.mono fun e w' ⟨he,hw⟩=>⟨_,he,JCc rfl,hw⟩
theorem JQS (n:Int)(h0:0≤n)(h1:n≤18446744073709551615):Ja Tryz.prog 156 [.raw (.int .u64 n)] (.int (Lib.bitLen n.toNat)) []:=
 JCr fun S ι w vs hG hin h=>by
  rw [JLI h]
  exact (Any.bits_Len Tryz.lays125 n w h0 h1).mono fun e w' ⟨he,hw⟩=>⟨_,he,JCc rfl,hw▸Below.refl _ _⟩
theorem JQc (s:List UInt8)(c:UInt8)(hc:c.toNat<128):Ja Tryz.prog 136 [.str s,.str [c]] (.str (Lib.trimLeftB s c)) []:=
 JCr fun S ι w vs hG hin h=>by
  rw [JD8 h]
  have:=Any.strings_TrimLeft_one Tryz.lays161 (bs s) c hc w
  rw [Zz] at this
  exact this.mono fun e w' ⟨he,hw⟩=>⟨_,he,JCc rfl,hw▸Below.refl _ _⟩
theorem JLd (s p:List UInt8)(hs:s.length<4294967281)(g:Nat)(hg:Tryz.prog.globalNamed "internal/bytealg.MaxLen" = some g)(hr:Tryz.lays145_ren.g 1=g) :
  Ja Tryz.prog 150 [.str s,.str p] (.tup [(false,[.d (.raw (.string (bs (Lib.cut s p).1)))]),(false,[.d (.raw (.string (bs (Lib.cut s p).2.1)))]),(false,[.d (.raw (.bool (Lib.cut s p).2.2))])]) []:=
 JCr fun S ι w vs hG hin h=>by
  rw [JD8 h]
  obtain ⟨m,hm⟩:=(hG.max g hg).2
  have:=Any.strings_Cut { Tryz.lays145 with } (bs s) (bs p) m w (by rw [Zb];exact hs) (by rw [hr];exact hm)
  rw [Zz,Zz] at this
  exact this.mono fun e w' ⟨he,n,hw⟩=>⟨_,he,fun S ι H w=>⟨_,rfl,⟨_,rfl,RepD.raw _ rfl⟩,⟨_,rfl,RepD.raw _ rfl⟩,⟨_,rfl,RepD.raw _ rfl⟩,trivial⟩,hw▸below_drewN (Below.refl _ _) n⟩
def JC5 (s p:List UInt8):List (List D):=(Lib.splitB (bs p) 0 (Lib.countB (bs s) (bs p)) (bs s)).map fun x=>[.raw (.string x)]
theorem JQa (s p:List UInt8)(hp:1≤p.length)(hs:s.length<4294967281)(g:Nat)(hg:Tryz.prog.globalNamed "internal/bytealg.MaxLen" = some g)(hr:Tryz.lays146_ren.g 1=g) :
  Ja Tryz.prog 107 [.str s,.str p] (.leaf (.own 900 0 (JC5 s p).length (JC5 s p).length)) [(900,.arr 9 1 (JC5 s p))]:=
 JRY rfl (fun x hx=>by obtain ⟨y,_,rfl⟩:=List.mem_map.1 hx;rfl) (by omega) fun S ι w vs hG hin h=>by
  rw [JD8 h]
  obtain ⟨m,hm⟩:=(hG.max g hg).2
  have hlen:=Lib.splitB_all (bs p) (by rw [Zb];exact hp) 0 _ (bs s) rfl
  have hle:=Lib.countB_le (bs p) (by rw [Zb];exact hp) (bs s).size (bs s) (Nat.le_refl _)
  have:=Any.strings_Split { Tryz.lays146 with } Tryz.lays146.i9 (bs s) (bs p) m w (by rw [Zb];exact hs) (by rw [hr];exact hm) (by rw [Zb];exact hp)
  refine this.mono fun e w' ⟨he,hw⟩=>⟨_,(Lib.splitB (bs p) 0 (Lib.countB (bs s) (bs p)) (bs s)).map Value.string,he,?_,fun S w=>?_,?_⟩
  ·subst hw
   have hn:(JC5 s p).length=Lib.countB (bs s) (bs p)+1:=by unfold JC5;rw [List.length_map];exact hlen
   refine ⟨by rw [List.length_map,hn,hlen,Nat.mul_one],.inr ⟨w.heap.size,Lib.countB (bs s) (bs p)+1,_,by rw [hn],Nat.le_refl _,Go.heap_alloc_new w _,by omega,?_,?_,?_⟩⟩
   ·rw [Zb] at hle
    unfold maxLen
    omega
   ·rw [List.size_toArray,List.length_map,hlen,Nat.mul_one]
   ·rw [hn,Nat.mul_one,List.take_of_length_le]
    rw [List.length_map,hlen];exact Nat.le_refl _
  ·unfold JC5
   generalize Lib.splitB (bs p) 0 (Lib.countB (bs s) (bs p)) (bs s)=l
   induction l with
   |nil=>trivial
   |cons x l ih=>exact ⟨RepD.raw _ rfl,ih⟩
  ·subst hw
   exact ⟨rfl,rfl,rfl,by simp,fun k hk=>Below.heap_alloc w _ k hk⟩
end Go.Mw
namespace Go.Bk
abbrev Bs:=List UInt8
theorem JEk {α:Type}{p:List α→Prop}(nil:p [])(snoc:∀l a,p l→p (l++[a]))(l:List α):p l:=by
 have h:∀r:List α,p r.reverse:=by
  intro r
  induction r with
  |nil=>exact nil
  |cons a r ih=>rw [List.reverse_cons];exact snoc _ _ ih
 have:=h l.reverse
 rwa [List.reverse_reverse] at this
def Ji (n:Nat):Bs:=Lib.decDigits n
theorem JBa {n:Nat}(h:n<10):Ji n=[UInt8.ofNat (48+n)]:=by unfold Ji;rw [Lib.decDigits,dif_pos h]
theorem JDi {n:Nat}(h:¬n<10):Ji n=Ji (n / 10)++[UInt8.ofNat (48+n%10)]:=by unfold Ji;rw [Lib.decDigits,dif_neg h]
theorem JSg (n:Nat):Lib.itoa (n:Int)=Ji n:=by unfold Lib.itoa Ji;rw [if_neg (by omega),Int.toNat_natCast]
def Qw (c:UInt8):Bool:=decide (48≤c.toNat)&&decide (c.toNat≤57)
theorem JA8 {c:UInt8}:Qw c=true↔48≤c.toNat∧c.toNat≤57:=by simp [Qw]
theorem JC2 {n:Nat}(h:n<256):(UInt8.ofNat n).toNat=n:=by simp;omega
theorem JFF {d:Nat}(h:d<10):(UInt8.ofNat (48+d)).toNat=48+d:=JC2 (by omega)
theorem JHX {d:Nat}(h:d<10):Qw (UInt8.ofNat (48+d))=true:=by rw [JA8,JFF h];omega
theorem JPC {a b:UInt8}(h:a.toNat=b.toNat):a=b:=UInt8.toNat.inj h
theorem JDh (n:Nat):(Ji n).all Qw=true:=by
 induction n using Nat.strongRecOn with
 |_ n ih=>
  by_cases h:n<10
  ·rw [JBa h,List.all_cons,JHX h];rfl
  ·rw [JDi h,List.all_append,ih (n / 10) (by omega),List.all_cons,JHX (show n%10<10 by omega)];rfl
theorem JGK (n:Nat):Ji n≠[]:=by
 by_cases h:n<10
 ·rw [JBa h];simp
 ·rw [JDi h];simp
theorem JKZ:Ji 0=[48]:=JBa (by omega)
theorem JO9 (n:Nat)(h:1≤n):(Ji n).head?≠some 48:=by
 induction n using Nat.strongRecOn with
 |_ n ih=>
  by_cases h10:n<10
  ·rw [JBa h10]
   simp only [List.head?_cons,ne_eq,Option.some.injEq]
   intro e
   have:=congrArg UInt8.toNat e
   rw [JFF h10] at this
   simp at this
   omega
  ·rw [JDi h10]
   have h1:=ih (n / 10) (by omega) (by omega)
   cases hx:Ji (n / 10) with
   |nil=>exact absurd hx (JGK _)
   |cons a l=>rw [hx] at h1;simpa using h1
theorem JAa {n k:Nat}(h:n<10^k)(hk:1≤k):(Ji n).length≤k:=by
 induction k generalizing n with
 |zero=>omega
 |succ k ih=>
  by_cases h10:n<10
  ·rw [JBa h10];simp
  ·rw [JDi h10,List.length_append,List.length_singleton]
   by_cases hk0:k=0
   ·subst hk0;simp at h;omega
   ·have:=ih (n:=n / 10) (by rw [Nat.pow_succ] at h;omega) (by omega)
    omega
def JX (l:Bs):Nat:=l.foldl (fun n c=>10*n+(c.toNat-48)) 0
theorem JH6 (l:Bs)(c:UInt8):JX (l++[c])=10*JX l+(c.toNat-48):=by simp [JX]
theorem JB5 (n:Nat):JX (Ji n)=n:=by
 induction n using Nat.strongRecOn with
 |_ n ih=>
  by_cases h:n<10
  ·rw [JBa h];show 10*0+_=_;rw [JFF h];omega
  ·rw [JDi h,JH6,ih (n / 10) (by omega),JFF (by omega)];omega
theorem JWF (s:Bs)(h0:s≠[])(hd:s.all Qw=true)(hz:s=[48]∨s.head?≠some 48):Ji (JX s)=s:=by
 induction s using JEk with
 |nil=>exact absurd rfl h0
 |snoc l c ih=>
  rw [List.all_append] at hd
  simp only [List.all_cons,List.all_nil,Bool.and_true,Bool.and_eq_true] at hd
  obtain ⟨hl,hc⟩:=hd
  have hc:=JA8.1 hc
  rw [JH6]
  by_cases hn:l=[]
  ·subst hn
   show Ji (10*0+_)=[c]
   rw [JBa (by omega)]
   congr 1
   apply JPC
   rw [JC2 (by omega)];omega
  ·have hh:l.head?≠some 48:=by
    cases l with
    |nil=>exact absurd rfl hn
    |cons a l=>
     rcases hz with hz|hz
     ·simp at hz
     ·simpa using hz
   have e:=ih hn hl (.inr hh)
   have hv:1≤JX l:=by
    rcases Nat.eq_zero_or_pos (JX l) with h|h
    ·rw [h,JKZ] at e;rw [←e] at hh;simp at hh
    ·exact h
   rw [JDi (by omega),show (10*JX l+(c.toNat-48)) / 10=JX l by omega,e]
   congr 2
   apply JPC
   rw [JC2 (by omega)];omega
theorem JWE {a b:Nat}(h:Ji a=Ji b):a=b:=by rw [←JB5 a,←JB5 b,h]
def pad (c:UInt8)(w:Nat)(x:Bs):Bs:=List.replicate (w-x.length) c++x
theorem JF1 (c:UInt8){w:Nat}{x:Bs}(h:x.length≤w):(pad c w x).length=w:=by simp [pad];omega
def dw (c:UInt8)(x:Bs):Bs:=Lib.trimLeftB x c
theorem JRp (c:UInt8)(k:Nat)(x:Bs):dw c (List.replicate k c++x)=dw c x:=by
 induction k with
 |zero=>rfl
 |succ k ih=>rw [List.replicate_succ,List.cons_append];unfold dw Lib.trimLeftB at *;rw [List.dropWhile_cons_of_pos (by simp),ih]
theorem JMN (c:UInt8)(w:Nat)(x:Bs):dw c (pad c w x)=dw c x:=JRp c _ x
theorem dw_head {c:UInt8}{x:Bs}(h:x.head?≠some c):dw c x=x:=by
 cases x with
 |nil=>rfl
 |cons a l=>unfold dw Lib.trimLeftB;rw [List.dropWhile_cons_of_neg (by intro e;rw [beq_iff_eq] at e;subst e;simp at h)]
theorem JRo (n w:Nat)(h:1≤n):dw 48 (pad 48 w (Ji n))=Ji n:=by rw [JMN,dw_head (JO9 n h)]
theorem JRn (n w:Nat):dw 32 (pad 32 w (Ji n))=Ji n:=by
 rw [JMN,dw_head]
 intro h
 have:=List.all_eq_true.1 (JDh n) 32 (List.mem_of_mem_head? h)
 exact absurd this (by decide)
def QL (s:Bs):Bool:=decide (s≠[])&&decide (s.length≤12)&&(decide (s=[48]) || decide (s.head?≠some 48))&&s.all Qw
theorem JFe {s:Bs}:QL s=true↔s≠[]∧s.length≤12∧(s=[48]∨s.head?≠some 48)∧s.all Qw=true:=by
 unfold QL
 simp only [Bool.and_eq_true,Bool.or_eq_true,decide_eq_true_eq]
 constructor
 ·rintro ⟨⟨⟨a,b⟩,c⟩,d⟩;exact ⟨a,b,c,d⟩
 ·rintro ⟨a,b,c,d⟩;exact ⟨⟨⟨a,b⟩,c⟩,d⟩
theorem JBr {n:Nat}(h:n<10^12):QL (Ji n)=true:=by
 refine JFe.2 ⟨JGK n,JAa h (by omega),?_,JDh n⟩
 by_cases h0:n=0
 ·subst h0;exact .inl JKZ
 ·exact .inr (JO9 n (by omega))
theorem JEM {s:Bs}(h:QL s=true):Ji (JX s)=s:=by
 obtain ⟨a,_,c,d⟩:=JFe.1 h
 exact JWF s a d c
def dig (c:UInt8):Nat:=if Qw c then c.toNat-48 else 0
def YX:Bs→Nat
 |[]=>0
 |c::l=>dig c+YX l
theorem JML (a b:Bs):YX (a++b)=YX a+YX b:=by
 induction a with
 |nil=>simp [YX]
 |cons c a ih=>simp [YX,ih];omega
theorem JRh (c:UInt8):dig c≤9:=by
 unfold dig
 split
 ·next h=>have:=JA8.1 h;omega
 ·exact Nat.zero_le _
theorem JRl (l:Bs):YX l≤9*l.length:=by
 induction l with
 |nil=>simp [YX]
 |cons c l ih=>have:=JRh c;simp [YX];omega
def chk (l:Bs):Bs:=Ji (YX l%10)
theorem JRW (l:Bs):(chk l).length=1:=by unfold chk;rw [JBa (by omega)];rfl
theorem JL3 (l:Bs):chk l=[UInt8.ofNat (48+YX l%10)]:=JBa (by omega)
def QC (c:UInt8):Bs→List Bs
 |[]=>[[]]
 |x::l=>if x=c then []::QC c l else match QC c l with
  |[]=>[[x]]
  |a::r=>(x::a)::r
theorem JCs (c:UInt8)(l:Bs):QC c l≠[]:=by
 induction l with
 |nil=>simp [QC]
 |cons x l ih=>
  unfold QC
  split
  ·simp
  ·split<;>simp
theorem cutB_hit (c:UInt8)(l:Bs):QC c (c::l)=[]::QC c l:=by rw [QC,if_pos rfl]
theorem JDM (c:UInt8):∀(a l:Bs),c ∉ a→QC c (a++c::l)=a::QC c l
 |[],l,_=>cutB_hit c l
 |x::a,l,h=>by
  have hx:x≠c:=fun e=>h (by simp [e])
  rw [List.cons_append,QC,if_neg hx,JDM c a l (fun e=>h (by simp [e]))]
theorem JDN (c:UInt8):∀(a:Bs),c ∉ a→QC c a=[a]
 |[],_=>rfl
 |x::a,h=>by
  have hx:x≠c:=fun e=>h (by simp [e])
  rw [QC,if_neg hx,JDN c a (fun e=>h (by simp [e]))]
def ends (c:UInt8)(ls:List Bs):Bs:=(ls.map (· ++ [c])).flatten
theorem JHF (c:UInt8):ends c []=[]:=rfl
theorem Zd (c:UInt8)(l:Bs)(ls:List Bs):ends c (l::ls)=l++c::ends c ls:=by simp [ends]
theorem JEJ (c:UInt8)(a b:List Bs):ends c (a++b)=ends c a++ends c b:=by simp [ends]
theorem JIi (c:UInt8):∀(ls:List Bs),(∀l∈ls,c ∉ l)→QC c (ends c ls)=ls++[[]]
 |[],_=>rfl
 |l::ls,h=>by
  rw [Zd,JDM c l _ (h l (by simp)),JIi c ls (fun x hx=>h x (by simp [hx]))];rfl
theorem JRc (c:UInt8)(t:Bs):QC c (t++[c])=QC c t++[[]]:=by
 induction t with
 |nil=>rw [List.nil_append,cutB_hit];rfl
 |cons x t ih=>
  rw [List.cons_append,QC,QC]
  split
  ·rw [ih];rfl
  ·rw [ih]
   cases hc:QC c t with
   |nil=>exact absurd hc (JCs c t)
   |cons a r=>rfl
theorem JG8 (c:UInt8)(t:Bs):ends c (QC c t)=t++[c]:=by
 induction t with
 |nil=>rfl
 |cons x t ih=>
  rw [QC]
  split
  ·next h=>subst h;rw [Zd,ih];rfl
  ·cases hc:QC c t with
   |nil=>exact absurd hc (JCs c t)
   |cons a r=>
    rw [hc,Zd] at ih
    show ends c ((x::a)::r)=_
    rw [Zd,List.cons_append,ih];rfl
end Go.Bk
namespace Go.Bk
def Ze (n lo hi:Int):Bool:=decide (lo≤n)&&decide (n≤hi)
theorem ZD {n lo hi:Int}:Ze n lo hi=true↔lo≤n∧n≤hi:=by simp [Ze]
def ZA:List Int→Bool
 |a::b::l=>decide (a<b)&&ZA (b::l)
 |_=>true
def JAS (n most:Nat)(ok rise:Bool):Int:=if most<n then 3 else if ok then (if rise then 0 else 7) else 1
theorem JCR {n most:Nat}{ok rise:Bool}(h:JAS n most ok rise=0):n≤most∧ok=true∧rise=true:=by
 unfold JAS at h
 split at h
 ·cases h
 ·cases ok<;>cases rise<;>simp at h;exact ⟨by omega,rfl,rfl⟩
structure Tr where
 flow:Int
 pour:Int
 shown:Int
 deriving DecidableEq,Inhabited
structure Sh where
 meter:Int
 tries:List Tr
 deriving DecidableEq,Inhabited
def Zt (t:Tr):Bool:=Ze t.flow 1 100000&&Ze t.pour 0 9999999&&Ze t.shown 0 9999999
def Z3 (x:Sh):Bool:=Ze x.meter 1 999999&&decide (x.tries.length≤6)&&x.tries.all Zt
def Yp (l:List Sh):Int:=JAS l.length 12 (l.all Z3) (ZA (l.map Sh.meter))
def Yy (m:Int):Bs:=35::pad 48 6 (Ji m.toNat)
def Qn (t:Tr):Bs:=pad 32 6 (Ji t.flow.toNat)++32::(pad 32 7 (Ji t.pour.toNat)++32::pad 32 7 (Ji t.shown.toNat))
def full (h:Bs):Bs:=h++32::chk h
def JBA (x:Sh):List Bs:=full (Yy x.meter)::x.tries.map fun t=>full (Qn t)
def Yl (l:List Sh):List Bs:=(l.map JBA).flatten
def Qp (l:List Sh):Bs:=ends 10 (Yl l)
def Qq (l:List Sh):Bs:=if Yp l=0 then Qp l else []
theorem JHc (a b:List Sh):Yl (a++b)=Yl a++Yl b:=by simp [Yl]
theorem JU6 (a b:List Sh):Qp (a++b)=Qp a++Qp b:=by unfold Qp;rw [JHc,JEJ]
theorem JCV (h:Bs):(full h).length=h.length+2:=by unfold full;rw [List.length_append,List.length_cons,JRW]
theorem JI7 (h:Bs):(full h).take h.length=h:=by unfold full;simp
theorem JSP (h:Bs):(full h).drop (h.length+1)=chk h:=by
 unfold full
 rw [show h.length+1=(h++[(32:UInt8)]).length by simp,show h++32::chk h=(h++[32])++chk h by simp,List.drop_left]
theorem JSN (h:Bs):(full h)[h.length]? = some 32:=by unfold full;simp
theorem JFi (n:Nat):(10:UInt8) ∉ Ji n:=fun h=>absurd (List.all_eq_true.1 (JDh n) 10 h) (by decide)
theorem JHQ {c:UInt8}(hc:c≠10){w:Nat}{x:Bs}(hx:(10:UInt8) ∉ x):(10:UInt8) ∉ pad c w x:=by
 unfold pad
 rw [List.mem_append]
 rintro (h|h)
 ·exact hc (List.mem_replicate.1 h).2.symm
 ·exact hx h
theorem JSF {h:Bs}(hh:(10:UInt8) ∉ h):(10:UInt8) ∉ full h:=by
 unfold full
 rw [List.mem_append,List.mem_cons]
 rintro (h1|h1|h1)
 ·exact hh h1
 ·exact absurd h1 (by decide)
 ·exact JFi _ h1
theorem JSG (m:Int):(10:UInt8) ∉ Yy m:=by
 unfold Yy
 rw [List.mem_cons]
 rintro (h|h)
 ·exact absurd h (by decide)
 ·exact JHQ (by decide) (JFi _) h
theorem JSH (t:Tr):(10:UInt8) ∉ Qn t:=by
 unfold Qn
 simp only [List.mem_append,List.mem_cons]
 rintro (h|h|h|h|h)
 ·exact JHQ (by decide) (JFi _) h
 ·exact absurd h (by decide)
 ·exact JHQ (by decide) (JFi _) h
 ·exact absurd h (by decide)
 ·exact JHQ (by decide) (JFi _) h
theorem JJO {l:List Sh}{x:Bs}(h:x∈Yl l):∃y,x=full y∧(10:UInt8) ∉ y∧y≠[]:=by
 unfold Yl at h
 obtain ⟨a,ha,hx⟩:=List.mem_flatten.1 h
 obtain ⟨s,_,rfl⟩:=List.mem_map.1 ha
 unfold JBA at hx
 rcases List.mem_cons.1 hx with e|e
 ·exact ⟨_,e,JSG _,by simp [Yy]⟩
 ·obtain ⟨t,_,rfl⟩:=List.mem_map.1 e
  exact ⟨_,rfl,JSH _,by simp [Qn]⟩
theorem JI0 {l:List Sh}:∀x∈Yl l,(10:UInt8) ∉ x:=fun x h=>by
 obtain ⟨y,rfl,hy,_⟩:=JJO h
 exact JSF hy
theorem JIj (l:List Sh):QC 10 (Qp l)=Yl l++[[]]:=JIi 10 _ JI0
def JGj (l:List Sh)(t:Tr):List Sh:=match l.getLast? with
 |some x=>l.dropLast++[⟨x.meter,x.tries++[t]⟩]
 |none=>l
theorem JIM (l:List Sh)(x:Sh)(t:Tr):JGj (l++[x]) t=l++[⟨x.meter,x.tries++[t]⟩]:=by simp [JGj]
def JBC (h:Bs):Option Int:=
 if h.length=7∧QL (dw 48 (h.drop 1))=true∧pad 48 6 (Ji (JX (dw 48 (h.drop 1))))=h.drop 1 then some (JX (dw 48 (h.drop 1))) else none
def pieces (h:Bs):Bs × Bs × Bs:=(h.take 6,(h.drop 7).take 7,(h.drop 15).take 7)
def JBE (h:Bs):Option Tr:=
 if (h.length=22∧h[6]? = some 32∧h[14]? = some 32)∧(QL (dw 32 (pieces h).1)=true∧QL (dw 32 (pieces h).2.1)=true∧QL (dw 32 (pieces h).2.2)=true) ∧
  (pad 32 6 (Ji (JX (dw 32 (pieces h).1)))=(pieces h).1∧pad 32 7 (Ji (JX (dw 32 (pieces h).2.1)))=(pieces h).2.1∧pad 32 7 (Ji (JX (dw 32 (pieces h).2.2)))=(pieces h).2.2) then
  some ⟨JX (dw 32 (pieces h).1),JX (dw 32 (pieces h).2.1),JX (dw 32 (pieces h).2.2)⟩ else none
def JAH (own:Bs):Bool:=decide (3≤own.length)&&(decide (own[own.length-2]? = some 32)&&decide (chk (own.take (own.length-2))=own.drop (own.length-1)))
def Yv (l:List Sh)(own:Bs):Option (List Sh):=
 if JAH own=true then
  if own.head? = some 35 then (JBC (own.take (own.length-2))).map fun m=>l++[⟨m,[]⟩]
  else if l=[] then none else (JBE (own.take (own.length-2))).map fun t=>JGj l t
 else none
def ZE (text:Bs):Option (List Bs):=if text=[] then some [] else if text.getLast? = some 10 then some (QC 10 text.dropLast) else none
def JC9 (text:Bs):Option (List Sh):=(ZE text).bind fun ls=>ls.foldlM Yv []
def JAl (text:Bs):Option (List Sh):=match JC9 text with
 |some l=>if Yp l=0 then some l else none
 |none=>none
theorem JL2 {h:Bs}(h0:h≠[]):JAH (full h)=true:=by
 have hl:=List.length_pos_iff.2 h0
 unfold JAH
 rw [JCV,show h.length+2-2=h.length by omega,show h.length+2-1=h.length+1 by omega,JSN,JI7,JSP]
 simp;omega
theorem JRV {own:Bs}(h:JAH own=true):own=full (own.take (own.length-2)):=by
 unfold JAH at h
 simp only [Bool.and_eq_true,decide_eq_true_eq] at h
 obtain ⟨h1,h2,h3⟩:=h
 unfold full
 rw [h3]
 obtain ⟨hlt,he⟩:=List.getElem?_eq_some_iff.1 h2
 have:=List.take_append_drop (own.length-2) own
 rw [List.drop_eq_getElem_cons hlt,he,show own.length-2+1=own.length-1 by omega] at this
 exact this.symm
theorem JHd {text:Bs}{ls:List Bs}(h:ZE text=some ls):text=ends 10 ls:=by
 unfold ZE at h
 split at h
 ·next e=>cases h;rw [e];rfl
 ·split at h
  ·next h0 hl=>
   cases h
   rw [JG8]
   obtain ⟨l,rfl⟩:∃l,text=l++[10]:=by
    rw [List.getLast?_eq_some_iff] at hl
    exact hl
   simp
  ·cases h
theorem JM9 {ls:List Bs}(h:∀l∈ls,(10:UInt8) ∉ l):ZE (ends 10 ls)=some ls:=by
 unfold ZE
 by_cases h0:ls=[]
 ·subst h0;rfl
 ·obtain ⟨a,b,rfl⟩:∃a b,ls=a++[b]:=⟨ls.dropLast,ls.getLast h0,(List.dropLast_concat_getLast h0).symm⟩
  have e:ends 10 (a++[b])=(ends 10 a++b)++[10]:=by rw [JEJ,Zd,JHF];simp
  have hc:=JIi 10 (a++[b]) h
  rw [e] at hc ⊢
  rw [JRc] at hc
  rw [if_neg (by simp),if_pos (by simp),List.dropLast_concat,List.append_cancel_right hc]
theorem JI9 {m:Int}(h0:0≤m)(h1:m≤999999):(Yy m).length=7:=by
 unfold Yy
 rw [List.length_cons,JF1]
 exact JAa (by omega) (by omega)
theorem JNa {t:Tr}(h:Zt t=true):(pad 32 6 (Ji t.flow.toNat)).length=6∧(pad 32 7 (Ji t.pour.toNat)).length=7∧(pad 32 7 (Ji t.shown.toNat)).length=7:=by
 unfold Zt at h
 simp only [Bool.and_eq_true,ZD] at h
 exact ⟨JF1 _ (JAa (by omega) (by omega)),JF1 _ (JAa (by omega) (by omega)),JF1 _ (JAa (by omega) (by omega))⟩
theorem JKC {t:Tr}(h:Zt t=true):(Qn t).length=22:=by
 obtain ⟨a,b,c⟩:=JNa h
 unfold Qn
 simp only [List.length_append,List.length_cons,a,b,c]
theorem JV5 {a b c:Bs}{x y:UInt8}(ha:a.length=6)(hb:b.length=7)(hc:c.length=7)(r:Bs) :
  (a++x::(b++y::c)++r).take 6=a∧((a++x::(b++y::c)++r).drop 7).take 7=b∧((a++x::(b++y::c)++r).drop 15).take 7=c∧(a++x::(b++y::c)++r)[6]? = some x∧(a++x::(b++y::c)++r)[14]? = some y:=by
 have e1:a++x::(b++y::c)++r=a++(x::(b++y::c)++r):=by simp
 have e2:a++x::(b++y::c)++r=(a++[x])++(b++(y::c++r)):=by simp
 have e3:a++x::(b++y::c)++r=(a++[x]++b++[y])++(c++r):=by simp
 refine ⟨?_,?_,?_,?_,?_⟩
 ·rw [e1,List.take_left' ha]
 ·rw [e2,List.drop_left' (by simp [ha]),List.take_left' hb]
 ·rw [e3,List.drop_left' (by simp [ha,hb]),List.take_left' hc]
 ·rw [e1,List.getElem?_append_right (by omega),ha];rfl
 ·rw [show a++x::(b++y::c)++r=(a++[x]++b)++(y::(c++r)) by simp,List.getElem?_append_right (by simp [ha,hb]),show 14-(a++[x]++b).length=0 by simp [ha,hb]];rfl
theorem JSu {h:Bs}(hl:h.length=22)(h6:h[6]? = some 32)(h14:h[14]? = some 32):h=(pieces h).1++32::((pieces h).2.1++32::(pieces h).2.2):=by
 obtain ⟨l6,e6⟩:=List.getElem?_eq_some_iff.1 h6
 obtain ⟨l14,e14⟩:=List.getElem?_eq_some_iff.1 h14
 have a1:=List.take_append_drop 6 h
 have a2:=List.drop_eq_getElem_cons l6
 have a3:=List.take_append_drop 7 (h.drop 7)
 have a4:=List.drop_eq_getElem_cons l14
 rw [List.drop_drop] at a3
 have a5:(h.drop 15).take 7=h.drop 15:=List.take_of_length_le ZY
 unfold pieces
 simp only
 rw [a5]
 rw [e6] at a2
 rw [e14] at a4
 simp only [Nat.reduceAdd] at a2 a3 a4
 rw [←a4,a3,←a2,a1]
theorem JSp {m:Int}(h1:1≤m)(h2:m≤999999):JBC (Yy m)=some m:=by
 unfold JBC
 have e:(Yy m).drop 1=pad 48 6 (Ji m.toNat):=rfl
 rw [e,JRo _ _ (by omega),JB5,if_pos ⟨JI9 (by omega) h2,JBr (by omega),rfl⟩]
 congr 1;omega
theorem JSq {h:Bs}{m:Int}(hh:h.head? = some 35)(e:JBC h=some m):h=Yy m:=by
 unfold JBC at e
 split at e
 ·next hc=>
  simp only [Option.some.injEq] at e
  obtain ⟨h1,h2,h3⟩:=hc
  subst e
  unfold Yy
  rw [Int.toNat_natCast,h3]
  cases h with
  |nil=>simp at h1
  |cons a l=>simp at hh;subst hh;rfl
 ·cases e
theorem JWD {t:Tr}(h:Zt t=true):JBE (Qn t)=some t:=by
 obtain ⟨a,b,c⟩:=JNa h
 obtain ⟨p1,p2,p3,p4,p5⟩:=JV5 (x:=32) (y:=32) a b c []
 rw [List.append_nil] at p1 p2 p3 p4 p5
 have hp:pieces (Qn t)=(pad 32 6 (Ji t.flow.toNat),pad 32 7 (Ji t.pour.toNat),pad 32 7 (Ji t.shown.toNat)):=by unfold pieces Qn;rw [p1,p2,p3]
 have h':=h
 unfold Zt at h'
 simp only [Bool.and_eq_true,ZD] at h'
 unfold JBE
 rw [hp]
 simp only [JRn,JB5]
 rw [if_pos ⟨⟨JKC h,p4,p5⟩,⟨JBr (by omega),JBr (by omega),JBr (by omega)⟩,by simp⟩]
 congr 1
 obtain ⟨x,y,z⟩:=t
 simp only at h' ⊢
 rw [Tr.mk.injEq]
 omega
theorem JWC {h:Bs}{t:Tr}(e:JBE h=some t):h=Qn t:=by
 unfold JBE at e
 split at e
 ·next hc=>
  simp only [Option.some.injEq] at e
  obtain ⟨⟨h1,h2,h3⟩,_,h7,h8,h9⟩:=hc
  subst e
  unfold Qn
  simp only [Int.toNat_natCast]
  rw [h7,h8,h9]
  exact JSu h1 h2 h3
 ·cases e
theorem JUh {t:Tr}:(Qn t).head?≠some 35:=by
 have hd:∀(n w:Nat) (r:Bs),(pad 32 w (Ji n)++r).head?≠some 35:=fun n w r h=>by
  unfold pad at h
  rw [List.append_assoc] at h
  rcases Nat.eq_zero_or_pos (w-(Ji n).length) with e|e
  ·rw [e] at h
   cases hx:Ji n with
   |nil=>exact absurd hx (JGK n)
   |cons a l=>
    rw [hx] at h
    simp at h
    have:=List.all_eq_true.1 (JDh n) a (by rw [hx];simp)
    subst h
    exact absurd this (by decide)
  ·obtain ⟨k,hk⟩:∃k,w-(Ji n).length=k+1:=⟨_,(Nat.succ_pred_eq_of_pos e).symm⟩
   rw [hk,List.replicate_succ] at h
   simp at h
 exact hd _ _ _
theorem JI6 {h:Bs}(h0:h≠[]):(full h).head? = h.head? :=by
 cases h with
 |nil=>exact absurd rfl h0
 |cons a l=>rfl
section fold
variable {f:List Sh→Bs→Option (List Sh)}
theorem JMk (hT:∀l x t,Zt t=true→f (l++[x]) (full (Qn t))=some (l++[⟨x.meter,x.tries++[t]⟩]))(l:List Sh):∀(ts:List Tr) (x:Sh),ts.all Zt=true→(ts.map fun t=>full (Qn t)).foldlM f (l++[x])=some (l++[⟨x.meter,x.tries++ts⟩])
 |[],x,_=>by simp
 |t::ts,x,h=>by
  simp only [List.all_cons,Bool.and_eq_true] at h
  rw [List.map_cons,List.foldlM_cons,hT l x t h.1]
  show List.foldlM f _ _=_
  rw [JMk hT l ts _ h.2]
  simp
theorem JMj (hH:∀l m,1≤m→m≤999999→f l (full (Yy m))=some (l++[⟨m,[]⟩]))(hT:∀l x t,Zt t=true→f (l++[x]) (full (Qn t))=some (l++[⟨x.meter,x.tries++[t]⟩])) :
  ∀(ls l:List Sh),ls.all Z3=true→(Yl ls).foldlM f l=some (l++ls)
 |[],l,_=>by simp [Yl]
 |x::ls,l,h=>by
  simp only [List.all_cons,Bool.and_eq_true] at h
  have hx:=h.1
  unfold Z3 at hx
  simp only [Bool.and_eq_true,ZD] at hx
  have e:Yl (x::ls)=full (Yy x.meter)::((x.tries.map fun t=>full (Qn t))++Yl ls):=by simp [Yl,JBA]
  rw [e,List.foldlM_cons,hH l x.meter hx.1.1.1 hx.1.1.2]
  show List.foldlM f _ _=_
  rw [List.foldlM_append,JMk hT l x.tries _ hx.2]
  show List.foldlM f _ _=_
  rw [List.nil_append,JMj hH hT ls _ h.2]
  simp
end fold
theorem JVq (l:List Sh)(m:Int)(h1:1≤m)(h2:m≤999999):Yv l (full (Yy m))=some (l++[⟨m,[]⟩]):=by
 have h0:Yy m≠[]:=by simp [Yy]
 unfold Yv
 rw [if_pos (JL2 h0),if_pos (by rw [JI6 h0];rfl),JCV,show (Yy m).length+2-2=(Yy m).length by omega,JI7,JSp h1 h2]
 rfl
theorem JVs (l:List Sh)(x:Sh)(t:Tr)(h:Zt t=true):Yv (l++[x]) (full (Qn t))=some (l++[⟨x.meter,x.tries++[t]⟩]):=by
 have h0:Qn t≠[]:=by simp [Qn]
 unfold Yv
 rw [if_pos (JL2 h0),if_neg (by rw [JI6 h0];exact JUh),if_neg (by simp),JCV,show (Qn t).length+2-2=(Qn t).length by omega,JI7,JWD h]
 show some (JGj _ t)=_
 rw [JIM]
theorem JV0 {l:List Sh}(h:Yp l=0):JC9 (Qp l)=some l:=by
 obtain ⟨_,hok,_⟩:=JCR h
 unfold JC9 Qp
 rw [JM9 JI0]
 show List.foldlM Yv [] _=_
 rw [JMj JVq JVs l [] hok];rfl
theorem JVr {l l':List Sh}{own:Bs}(h:Yv l own=some l'):Yl l'=Yl l++[own]:=by
 unfold Yv at h
 split at h
 ·next hc=>
  have hf:=JRV hc
  split at h
  ·next hh=>
   obtain ⟨m,hm,rfl⟩:=Option.map_eq_some_iff.1 h
   have hn:own.take (own.length-2)≠[]:=by
    intro e
    rw [e] at hf
    rw [hf] at hh
    simp [full] at hh
   have hh':(own.take (own.length-2)).head? = some 35:=by rw [←JI6 hn,←hf];exact hh
   rw [JSq hh' hm] at hf
   rw [JHc]
   simp [Yl,JBA,←hf]
  ·split at h
   ·cases h
   ·next hn=>
    obtain ⟨t,ht,rfl⟩:=Option.map_eq_some_iff.1 h
    rw [JWC ht] at hf
    obtain ⟨a,b,rfl⟩:∃a b,l=a++[b]:=⟨l.dropLast,l.getLast hn,(List.dropLast_concat_getLast hn).symm⟩
    rw [JIM,JHc,JHc,List.append_assoc]
    simp [Yl,JBA,←hf]
 ·cases h
theorem JMi:∀(ls:List Bs) (l l':List Sh),ls.foldlM Yv l=some l' → Yl l'=Yl l++ls
 |[],l,l',h=>by simp at h;subst h;simp
 |x::ls,l,l',h=>by
  rw [List.foldlM_cons] at h
  obtain ⟨l1,h1,h2⟩:=Option.bind_eq_some_iff.1 h
  rw [JMi ls l1 l' h2,JVr h1];simp
theorem JVy {text:Bs}{l:List Sh}(h:JC9 text=some l):Qp l=text:=by
 unfold JC9 at h
 obtain ⟨ls,h1,h2⟩:=Option.bind_eq_some_iff.1 h
 have:=JMi ls [] l h2
 unfold Qp
 rw [this,JHd h1];rfl
theorem JNg {text:Bs}{l:List Sh}:JAl text=some l↔Yp l=0∧Qp l=text:=by
 unfold JAl
 constructor
 ·intro h
  split at h
  ·next hs=>
   split at h
   ·next hc=>cases h;exact ⟨hc,JVy hs⟩
   ·cases h
  ·cases h
 ·rintro ⟨h1,h2⟩
  subst h2
  rw [JV0 h1]
  simp only
  rw [if_pos h1]
end Go.Bk
namespace Go.Bk
structure Pg where
 house:Int
 reads:List Int
 deriving DecidableEq,Inhabited
def JBD:List Int→Bool
 |a::b::l=>decide (a≤b)&&JBD (b::l)
 |_=>true
def ZF (x:Pg):Bool:=Ze x.house 0 9999&&decide (x.reads.length≤16)&&x.reads.all (fun n=>Ze n 0 1073741824)&&JBD x.reads
def Yf (l:List Pg):Int:=JAS l.length 32 (l.all ZF) (ZA (l.map Pg.house))
def J0:List Int→List Int
 |a::b::l=>(b-a)::J0 (b::l)
 |_=>[]
def JCb (out:List (Nat × Int))(d:Int):List (Nat × Int):=match out.getLast? with
 |some (n,e)=>if e=d then out.dropLast++[(n+1,e)] else out++[(1,d)]
 |none=>[(1,d)]
def runs (ds:List Int):List (Nat × Int):=ds.foldl JCb []
def Zn (g:Nat × Int):Bs:=if g.1=1 then Ji g.2.toNat else Ji g.1++120::Ji g.2.toNat
def Yh (x:Pg):List Bs:=Ji x.house.toNat::match x.reads with
 |[]=>[]
 |r::_=>Ji r.toNat::(runs (J0 x.reads)).map Zn
def blanks:List Bs→Bs
 |[]=>[]
 |[a]=>a
 |a::b::l=>a++32::blanks (b::l)
def Zf (x:Pg):Bs:=blanks (Yh x)
def YZ (l:List Pg):Bs:=ends 10 (l.map Zf)
def ZL (l:List Pg):Bs:=if Yf l=0 then YZ l else []
theorem JTq (a b:List Pg):YZ (a++b)=YZ a++YZ b:=by unfold YZ;rw [List.map_append,JEJ]
theorem JED (a:Bs){l:List Bs}(h:l≠[]):blanks (a::l)=a++32::blanks l:=by
 cases l with
 |nil=>exact absurd rfl h
 |cons b l=>rfl
theorem JMA:∀(ws:List Bs),ws≠[]→(∀w∈ws,(32:UInt8) ∉ w)→QC 32 (blanks ws)=ws
 |[],h,_=>absurd rfl h
 |[a],_,h=>JDN 32 a (h a (by simp))
 |a::b::l,_,h=>by
  rw [JED a (by simp),JDM 32 a _ (h a (by simp)),JMA (b::l) (by simp) (fun w hw=>h w (by simp [hw]))]
theorem JPx (l:Bs):blanks (QC 32 l)=l:=by
 have h:∀ws:List Bs,ws≠[]→ends 32 ws=blanks ws++[32]:=by
  intro ws
  induction ws with
  |nil=>exact fun h=>absurd rfl h
  |cons a ws ih=>
   intro _
   by_cases h0:ws=[]
   ·subst h0;simp [ends,blanks]
   ·rw [Zd,ih h0,JED a h0];simp
 exact List.append_cancel_right ((h _ (JCs 32 l)).symm.trans (JG8 32 l))
theorem JJD:∀(ws:List Bs),Lib.join ws [32]=blanks ws
 |[]=>rfl
 |[a]=>Lib.join_one a _
 |a::b::l=>by
  rw [JED a (by simp),←JJD (b::l),Lib.join_cons,Lib.join_cons]
  simp [Lib.joinTail]
theorem JI1 (n:Nat):(120:UInt8) ∉ Ji n:=fun h=>absurd (List.all_eq_true.1 (JDh n) 120 h) (by decide)
theorem JSb {c:UInt8}(hc:Qw c=false)(hx:c≠120)(g:Nat × Int):c ∉ Zn g:=by
 have ht:∀n,c ∉ Ji n:=fun n h=>by rw [List.all_eq_true.1 (JDh n) c h] at hc;cases hc
 unfold Zn
 split
 ·exact ht _
 ·simp only [List.mem_append,List.mem_cons]
  rintro (h|h|h)
  ·exact ht _ h
  ·exact hx h
  ·exact ht _ h
theorem JPS {c:UInt8}(hc:Qw c=false)(hx:c≠120)(x:Pg):∀w∈Yh x,c ∉ w:=by
 have ht:∀n,c ∉ Ji n:=fun n h=>by rw [List.all_eq_true.1 (JDh n) c h] at hc;cases hc
 intro w hw
 unfold Yh at hw
 rcases List.mem_cons.1 hw with h|h
 ·subst h;exact ht _
 ·split at h
  ·cases h
  ·rcases List.mem_cons.1 h with h|h
   ·subst h;exact ht _
   ·obtain ⟨g,_,rfl⟩:=List.mem_map.1 h;exact JSb hc hx g
theorem JLP {c:UInt8}(hc:c≠32):∀(ws:List Bs),(∀w∈ws,c ∉ w)→c ∉ blanks ws
 |[],_=>by simp [blanks]
 |[a],h=>h a (by simp)
 |a::b::l,h=>by
  rw [JED a (by simp),List.mem_append,List.mem_cons]
  rintro (h1|h1|h1)
  ·exact h a (by simp) h1
  ·exact hc h1
  ·exact JLP hc (b::l) (fun w hw=>h w (by simp [hw])) h1
theorem JTm (x:Pg):(10:UInt8) ∉ Zf x:=JLP (by decide) _ (JPS (by decide) (by decide) x)
theorem JNc {l:List Pg}:∀y∈l.map Zf,(10:UInt8) ∉ y:=fun y h=>by
 obtain ⟨x,_,rfl⟩:=List.mem_map.1 h;exact JTm x
theorem JWZ (x:Pg):Yh x≠[]:=by unfold Yh;simp
theorem JMB (x:Pg):QC 32 (Zf x)=Yh x:=JMA _ (JWZ x) (JPS (by decide) (by decide) x)
def ZT (l:List Int):Int:=l.getLast?.getD 0
def J7 (d:Int):Nat→List Int→List Int
 |0,r=>r
 |n+1,r=>J7 d n (r++[ZT r+d])
theorem JMz (l:List Int)(x:Int):ZT (l++[x])=x:=by simp [ZT]
theorem Zx (d:Int):∀(n:Nat) (r:List Int),(J7 d n r).length=r.length+n
 |0,_=>rfl
 |n+1,r=>by rw [J7,Zx d n];simp;omega
theorem JLH (d:Int)(n:Nat){r:List Int}(h:r≠[]):J7 d n r≠[]:=by
 have:=Zx d n r
 have:=List.length_pos_iff.2 h
 exact List.length_pos_iff.1 (by omega)
theorem JCp (d:Int):∀(n:Nat) (r:List Int),J7 d (n+1) r=J7 d n r++[ZT (J7 d n r)+d]
 |0,r=>rfl
 |n+1,r=>by rw [J7,JCp d n,J7]
theorem JEI:∀(r:List Int) (x:Int),r≠[]→J0 (r++[x])=J0 r++[x-ZT r]
 |[],_,h=>absurd rfl h
 |[a],x,_=>by simp [J0,ZT]
 |a::b::l,x,_=>by
  have:=JEI (b::l) x (by simp)
  rw [List.cons_append] at this
  simp only [List.cons_append,J0,this]
  simp [ZT]
theorem JBo:∀(r:List Int),(J0 r).length=r.length-1
 |[]=>rfl
 |[_]=>rfl
 |a::b::l=>by simp [J0,JBo (b::l)]
theorem JIl (d:Int):∀(n:Nat) (r:List Int),r≠[]→J0 (J7 d n r)=J0 r++List.replicate n d
 |0,r,_=>by simp [J7]
 |n+1,r,h=>by
  rw [J7,JIl d n _ (by simp),JEI r _ h,List.replicate_succ]
  simp;omega
def good:List (Nat × Int)→Prop
 |[]=>True
 |[a]=>1≤a.1
 |a::b::l=>1≤a.1∧a.2≠b.2∧good (b::l)
theorem JEZ (gs:List (Nat × Int))(n:Nat)(e d:Int):JCb (gs++[(n,e)]) d=if e=d then gs++[(n+1,e)] else gs++[(n,e),(1,d)]:=by
 unfold JCb;simp
theorem JEQ:∀(gs:List (Nat × Int)) (g:Nat × Int),good (gs++[g])↔good gs∧1≤g.1∧∀h,gs.getLast? = some h→h.2≠g.2
 |[],g=>by simp [good]
 |[a],g=>by
  simp only [List.cons_append,List.nil_append,good,List.getLast?_singleton,Option.some.injEq,forall_eq']
  constructor
  ·rintro ⟨h1,h2,h3⟩;exact ⟨h1,h3,h2⟩
  ·rintro ⟨h1,h2,h3⟩;exact ⟨h1,h3,h2⟩
 |a::b::l,g=>by
  have ih:=JEQ (b::l) g
  simp only [List.cons_append] at ih ⊢
  rw [good,good,ih]
  simp only [List.getLast?_cons_cons]
  constructor
  ·rintro ⟨h1,h2,h3,h4,h5⟩;exact ⟨⟨h1,h2,h3⟩,h4,h5⟩
  ·rintro ⟨⟨h1,h2,h3⟩,h4,h5⟩;exact ⟨h1,h2,h3,h4,h5⟩
def spread (gs:List (Nat × Int)):List Int:=(gs.map fun g=>List.replicate g.1 g.2).flatten
theorem JEl (gs:List (Nat × Int))(g:Nat × Int):spread (gs++[g])=spread gs++List.replicate g.1 g.2:=by simp [spread]
theorem JKH (ds:List Int)(d:Int):runs (ds++[d])=JCb (runs ds) d:=by simp [runs]
theorem JOP (ds:List Int):good (runs ds)∧spread (runs ds)=ds:=by
 induction ds using JEk with
 |nil=>exact ⟨trivial,rfl⟩
 |snoc ds d ih=>
  obtain ⟨h1,h2⟩:=ih
  rw [JKH]
  by_cases h0:runs ds=[]
  ·rw [h0] at h2 ⊢
   rw [←h2]
   exact ⟨Nat.le_refl 1,rfl⟩
  ·obtain ⟨gs,⟨n,e⟩,hg⟩:∃a b,runs ds=a++[b]:=⟨_,_,(List.dropLast_concat_getLast h0).symm⟩
   rw [hg] at h1 h2 ⊢
   rw [JEZ]
   rw [JEl] at h2
   have hs:=(JEQ gs (n,e)).1 h1
   split
   ·next he=>
    subst he
    refine ⟨(JEQ gs (n+1,e)).2 ⟨hs.1,by simp,hs.2.2⟩,?_⟩
    rw [JEl,←h2,List.append_assoc]
    simp [List.replicate_succ']
   ·next he=>
    rw [show gs++[(n,e),(1,d)]=(gs++[(n,e)])++[(1,d)] by simp]
    refine ⟨(JEQ _ _).2 ⟨h1,Nat.le_refl 1,fun h hh=>?_⟩,?_⟩
    ·simp at hh;subst hh;exact he
    ·rw [JEl,JEl,h2];rfl
theorem JNt (gs:List (Nat × Int))(d:Int)(h:∀g,gs.getLast? = some g→g.2≠d):∀n,(List.replicate (n+1) d).foldl JCb gs=gs++[(n+1,d)]
 |0=>by
  show JCb gs d=_
  by_cases h0:gs=[]
  ·subst h0;rfl
  ·obtain ⟨a,⟨k,e⟩,rfl⟩:∃a b,gs=a++[b]:=⟨_,_,(List.dropLast_concat_getLast h0).symm⟩
   have he:=h (k,e) (by simp)
   rw [JEZ,if_neg he];simp
 |n+1=>by
  rw [List.replicate_succ',List.foldl_append,JNt gs d h n]
  show JCb (gs++[(n+1,d)]) d=_
  rw [JEZ,if_pos rfl]
theorem JUv (gs:List (Nat × Int))(h:good gs):runs (spread gs)=gs:=by
 induction gs using JEk with
 |nil=>rfl
 |snoc gs g ih=>
  obtain ⟨h1,h2,h3⟩:=(JEQ gs g).1 h
  rw [JEl]
  unfold runs
  rw [List.foldl_append]
  have:=ih h1
  unfold runs at this
  rw [this]
  obtain ⟨n,d⟩:=g
  obtain ⟨k,rfl⟩:∃k,n=k+1:=⟨n-1,by simp at h2;omega⟩
  exact JNt gs d h3 k
def JAs (w:Bs):Option (Nat × Int):=match QC 120 w with
 |[a]=>if QL a=true then some (1,JX a) else none
 |a::r=>if (QL a=true∧QL (w.drop (a.length+1))=true)∧2≤JX a∧JX a≤16 then some (JX a,JX (w.drop (a.length+1))) else none
 |[]=>none
structure St where
 reads:List Int
 last:Nat × Int
def ZH (s:St)(w:Bs):Option St:=(JAs w).bind fun g=>if (s.last.1=0∨s.last.2≠g.2)∧s.reads.length+g.1≤16 then some ⟨J7 g.2 g.1 s.reads,g⟩ else none
def Yu (line:Bs):Option Pg:=match QC 32 line with
 |[]=>none
 |[h]=>if QL h=true then some ⟨JX h,[]⟩ else none
 |h::r::ws=>if QL h=true∧QL r=true then (ws.foldlM ZH ⟨[(JX r:Int)],(0,0)⟩).map fun s=>⟨JX h,s.reads⟩ else none
def JDg (text:Bs):Option (List Pg):=(ZE text).bind fun ls=>ls.mapM Yu
def JAv (text:Bs):Option (List Pg):=(JDg text).bind fun l=>if Yf l=0 then some l else none
theorem JSW {w:Bs}{g:Nat × Int}(h:JAs w=some g):w=Zn g∧1≤g.1:=by
 unfold JAs at h
 split at h
 ·next a ha=>
  split at h
  ·next hf=>
   cases h
   have:w=a:=by
    have:=JG8 120 w
    rw [ha,Zd,JHF] at this
    exact (List.append_cancel_right this).symm
   subst this
   exact ⟨by unfold Zn;simp [JEM hf],Nat.le_refl 1⟩
  ·cases h
 ·next a r hne ha=>
  split at h
  ·next hc=>
   cases h
   obtain ⟨⟨h1,h2⟩,h3,h4⟩:=hc
   have hw:w=a++120::w.drop (a.length+1):=by
    have:=JG8 120 w
    rw [ha,Zd] at this
    have hr:r≠[]:=fun e=>hne e
    have hl:(a++120::ends 120 r).length=w.length+1:=by rw [this];simp
    have hp:1≤(ends 120 r).length:=by
     cases r with
     |nil=>exact absurd rfl hr
     |cons b r=>rw [Zd];simp;omega
    simp at hl
    have h1:(w++[120]).take (a.length+1)=a++[120]:=by
     rw [←this,show a++120::ends 120 r=(a++[120])++ends 120 r by simp,List.take_left' (by simp)]
    have h2:w.take (a.length+1)=a++[120]:=by rw [←h1,List.take_append_of_le_length (by omega)]
    have:=List.take_append_drop (a.length+1) w
    rw [h2] at this
    rw [←this];simp
   refine ⟨?_,by simp;omega⟩
   unfold Zn
   simp only [Int.toNat_natCast]
   rw [if_neg (by omega),JEM h1,JEM h2];exact hw
  ·cases h
 ·cases h
theorem JSX {n:Nat}{d:Int}(h1:1≤n)(h2:n≤16)(h3:0≤d)(h4:d<10^12):JAs (Zn (n,d))=some (n,d):=by
 have hd:((d.toNat:Nat):Int)=d:=Int.toNat_of_nonneg h3
 unfold JAs Zn
 by_cases hn:n=1
 ·subst hn
  simp only [if_true]
  rw [JDN 120 _ (JI1 _)]
  simp only
  rw [if_pos (JBr (by omega)),JB5,hd]
 ·simp only
  rw [if_neg hn,JDM 120 _ _ (JI1 _),JDN 120 _ (JI1 _)]
  simp only
  have e:(Ji n++120::Ji d.toNat).drop ((Ji n).length+1)=Ji d.toNat:=by
   rw [show Ji n++120::Ji d.toNat=(Ji n++[120])++Ji d.toNat by simp,List.drop_left' (by simp)]
  rw [e,JB5,JB5,if_pos ⟨⟨JBr (by omega),JBr (by omega)⟩,by omega,h2⟩,hd]
theorem JEP:∀(gs:List (Nat × Int)),good gs→∀g∈gs,1≤g.1
 |[],_,_,h=>by cases h
 |[a],h,g,hg=>by simp at hg;subst hg;exact h
 |a::b::l,h,g,hg=>by
  rcases List.mem_cons.1 hg with e|e
  ·subst e;exact h.1
  ·exact JEP (b::l) h.2.2 g e
theorem JPR {r0:Int}:∀(ws:List Bs) (s s':St) (gs:List (Nat × Int)),good gs→s.reads≠[]→s.reads.head? = some r0→J0 s.reads=spread gs→(s.last=(0,0)∧gs=[]∨gs.getLast? = some s.last) →
  ws.foldlM ZH s=some s' → ∃gs',good gs' ∧ s'.reads≠[]∧s'.reads.head? = some r0∧J0 s'.reads=spread gs' ∧ gs'.map Zn=gs.map Zn++ws
 |[],s,s',gs,hg,h0,hh,hd,_,h=>by simp at h;subst h;exact ⟨gs,hg,h0,hh,hd,by simp⟩
 |w::ws,s,s',gs,hg,h0,hh,hd,hl,h=>by
  rw [List.foldlM_cons] at h
  obtain ⟨s1,h1,h2⟩:=Option.bind_eq_some_iff.1 h
  unfold ZH at h1
  obtain ⟨g,hgw,h3⟩:=Option.bind_eq_some_iff.1 h1
  split at h3
  ·next hc=>
   cases h3
   obtain ⟨hw,hn⟩:=JSW hgw
   have hg':good (gs++[g]):=(JEQ gs g).2 ⟨hg,hn,fun k hk=>by
    rcases hl with ⟨_,e⟩|e
    ·subst e;cases hk
    ·rw [e] at hk
     cases hk
     rcases hc.1 with hz|hz
     ·have:=JEP gs hg s.last (List.mem_of_getLast? e);omega
     ·exact hz⟩
   have hh':(J7 g.2 g.1 s.reads).head? = some r0:=by
    have:∀(n:Nat) (r:List Int),r.head? = some r0→(J7 g.2 n r).head? = some r0:=by
     intro n
     induction n with
     |zero=>exact fun r h=>h
     |succ n ih=>intro r h;rw [J7];apply ih;cases r with
      |nil=>cases h
      |cons a l=>exact h
    exact this _ _ hh
   obtain ⟨gs',a1,a2,a3,a4,a5⟩:=JPR ws _ s' (gs++[g]) hg' (JLH _ _ h0) hh' (by rw [JIl _ _ _ h0,hd,JEl]) (.inr (by simp)) h2
   exact ⟨gs',a1,a2,a3,a4,by rw [a5,hw];simp⟩
  ·cases h3
theorem JTn {line:Bs}{x:Pg}(h:Yu line=some x):line=Zf x:=by
 unfold Yu at h
 rw [←JPx line]
 unfold Zf
 split at h
 ·cases h
 ·next a ha=>
  split at h
  ·next hf=>cases h;rw [ha];unfold Yh;simp [JEM hf]
  ·cases h
 ·next a r ws ha=>
  split at h
  ·next hf=>
   obtain ⟨s,hs,rfl⟩:=Option.map_eq_some_iff.1 h
   obtain ⟨gs,h1,h2,h3,h4,h5⟩:=JPR (r0:=(JX r:Int)) ws _ s [] trivial (by simp) rfl rfl (.inl ⟨rfl,rfl⟩) hs
   rw [ha]
   unfold Yh
   cases hr:s.reads with
   |nil=>exact absurd hr h2
   |cons b l=>
    rw [hr] at h3 h4
    simp only [List.head?_cons,Option.some.injEq] at h3
    rw [←hr] at h4
    simp only [hr,h3,Int.toNat_natCast,JEM hf.1,JEM hf.2]
    rw [←h3,←hr,h4,JUv gs h1,h5]
    rfl
  ·cases h
theorem JNF:∀(ls:List Bs) (l:List Pg),ls.mapM Yu=some l→ls=l.map Zf
 |[],l,h=>by simp at h;subst h;rfl
 |x::ls,l,h=>by
  rw [List.mapM_cons] at h
  obtain ⟨p,h1,h2⟩:=Option.bind_eq_some_iff.1 h
  obtain ⟨ps,h3,h4⟩:=Option.bind_eq_some_iff.1 h2
  simp at h4;subst h4
  rw [List.map_cons,←JTn h1,←JNF ls ps h3]
theorem JVx {text:Bs}{l:List Pg}(h:JDg text=some l):YZ l=text:=by
 unfold JDg at h
 obtain ⟨ls,h1,h2⟩:=Option.bind_eq_some_iff.1 h
 unfold YZ
 rw [←JNF ls l h2,←JHd h1]
theorem JUV:∀(gs:List (Nat × Int)) (r r':List Int),r≠[]→(∃t,r'=r++t)→J0 r'=J0 r++spread gs→gs.foldl (fun a g=>J7 g.2 g.1 a) r=r':=by
 have key:∀(t:List Int) (r:List Int) ,r≠[]→∀ds,J0 (r++t)=J0 r++ds→t.length=ds.length:=by
  intro t r h0 ds h
  have:=congrArg List.length h
  rw [List.length_append,JBo,JBo,List.length_append] at this
  have:=List.length_pos_iff.2 h0
  omega
 have one:∀(d:Int) (n:Nat) (r t:List Int),r≠[]→∀ds,J0 (r++t)=J0 r++(List.replicate n d++ds)→∃t',r++t=J7 d n r++t':=by
  intro d n
  induction n with
  |zero=>exact fun r t _ ds _=>⟨t,rfl⟩
  |succ n ih=>
   intro r t h0 ds h
   cases t with
   |nil=>have:=key [] r h0 _ h;simp at this;omega
   |cons x t=>
    have e:r++x::t=(r++[x])++t:=by simp
    have hx:x-ZT r=d:=by
     have h':=h
     rw [e] at h'
     have hpre:∀(t:List Int) (q:List Int),q≠[]→∃z,J0 (q++t)=J0 q++z:=by
      intro t
      induction t with
      |nil=>exact fun q _=>⟨[],by simp⟩
      |cons y t ih2=>
       intro q hq
       obtain ⟨z,hz⟩:=ih2 (q++[y]) (by simp)
       refine ⟨(y-ZT q)::z,?_⟩
       rw [show q++y::t=(q++[y])++t by simp,hz,JEI q y hq];simp
     obtain ⟨z,hz⟩:=hpre t (r++[x]) (by simp)
     rw [hz,JEI r x h0,List.append_assoc] at h'
     have:=List.append_cancel_left h'
     rw [List.replicate_succ] at this
     simp at this
     exact this.1
    have hr:r++[x]=r++[ZT r+d]:=by congr 2;omega
    rw [e]
    have:=ih (r++[x]) t (by simp) ds (by
     rw [←e,h,JEI r x h0,hx,List.replicate_succ];simp)
    rw [J7,←hr]
    exact this
 intro gs
 induction gs with
 |nil=>
  intro r r' h0 ⟨t,ht⟩ h
  subst ht
  have:=key t r h0 [] (by simpa [spread] using h)
  have:t=[]:=List.eq_nil_of_length_eq_zero this
  subst this;simp
 |cons g gs ih=>
  intro r r' h0 ⟨t,ht⟩ h
  subst ht
  have hsp:spread (g::gs)=List.replicate g.1 g.2++spread gs:=by simp [spread]
  rw [hsp] at h
  obtain ⟨t',ht'⟩:=one g.2 g.1 r t h0 _ h
  rw [List.foldl_cons]
  refine ih (J7 g.2 g.1 r) _ (JLH _ _ h0) ⟨t',ht'⟩ ?_
  rw [h,JIl _ _ _ h0,List.append_assoc]
theorem JOl:∀(r:List Int),JBD r=true→∀d∈J0 r,0≤d
 |[],_,_,h=>by cases h
 |[_],_,_,h=>by cases h
 |a::b::l,hs,d,h=>by
  simp only [JBD,Bool.and_eq_true,decide_eq_true_eq] at hs
  simp only [J0] at h
  rcases List.mem_cons.1 h with e|e
  ·subst e;omega
  ·exact JOl (b::l) hs.2 d e
theorem JMH:∀(r:List Int),(∀n∈r,Ze n 0 1073741824=true)→∀d∈J0 r,d≤1073741824
 |[],_,_,h=>by cases h
 |[_],_,_,h=>by cases h
 |a::b::l,hs,d,h=>by
  have ha:=ZD.1 (hs a (by simp))
  have hb:=ZD.1 (hs b (by simp))
  simp only [J0] at h
  rcases List.mem_cons.1 h with e|e
  ·subst e;omega
  ·exact JMH (b::l) (fun n hn=>hs n (by simp [hn])) d e
theorem JVp {gs:List (Nat × Int)}(hg:good gs){g:Nat × Int}(h:g∈gs):g.2∈spread gs:=by
 have:=JEP gs hg g h
 unfold spread
 exact List.mem_flatten.2 ⟨_,List.mem_map.2 ⟨g,h,rfl⟩,List.mem_replicate.2 ⟨by omega,rfl⟩⟩
def Jp (gs:List (Nat × Int)):Nat:=(gs.map Prod.fst).sum
theorem JOn (gs:List (Nat × Int)):(spread gs).length=Jp gs:=by
 induction gs with
 |nil=>rfl
 |cons g gs ih=>simp only [spread,Jp,List.map_cons,List.flatten_cons,List.length_append,List.length_replicate,List.sum_cons] at ih ⊢;omega
structure JPV (x:Pg) (r:Int) (gs:List (Nat × Int)):Prop where
 good:good gs
 eq:runs (J0 x.reads)=gs
 reads:gs.foldl (fun a g=>J7 g.2 g.1 a) [r]=x.reads
 by0:∀g∈gs,0≤g.2∧g.2≤1073741824
 len:1+Jp gs≤16
theorem JF2 {x:Pg}(hx:ZF x=true){r:Int}{t:List Int}(hr:x.reads=r::t):JPV x r (runs (J0 x.reads)):=by
 unfold ZF at hx
 simp only [Bool.and_eq_true,decide_eq_true_eq] at hx
 obtain ⟨⟨⟨_,h2⟩,h3⟩,h4⟩:=hx
 obtain ⟨g1,g2⟩:=JOP (J0 x.reads)
 have h3':=List.all_eq_true.1 h3
 refine ⟨g1,rfl,JUV _ [r] x.reads (by simp) ⟨t,by rw [hr];rfl⟩ (by rw [g2];rfl),fun g hg=>?_,?_⟩
 ·have hm:g.2∈J0 x.reads:=by
   have:=JVp g1 hg
   rwa [g2] at this
  exact ⟨JOl _ h4 _ hm,JMH _ h3' _ hm⟩
 ·have:=JOn (runs (J0 x.reads))
  rw [g2,JBo] at this
  rw [hr] at this h2 ⊢
  simp at this h2
  omega
theorem JPQ:∀(gs:List (Nat × Int)) (s:St),good gs→(∀g∈gs,0≤g.2∧g.2≤1073741824)→s.reads.length+Jp gs≤16→(∀g,gs.head? = some g→s.last.1=0∨s.last.2≠g.2) →
  ∃q,(gs.map Zn).foldlM ZH s=some ⟨gs.foldl (fun a g=>J7 g.2 g.1 a) s.reads,q⟩
 |[],s,_,_,_,_=>⟨s.last,rfl⟩
 |(n,d)::gs,s,hg,h0,hl,hd=>by
  have hn:1≤n:=JEP _ hg (n,d) (by simp)
  have hb:=h0 (n,d) (by simp)
  have ht:Jp ((n,d)::gs)=n+Jp gs:=by simp [Jp]
  rw [ht] at hl
  have e:ZH s (Zn (n,d))=some ⟨J7 d n s.reads,(n,d)⟩:=by
   unfold ZH
   rw [JSX hn (by omega) hb.1 (by simp at hb;omega)]
   show (if _ then _ else _)=_
   rw [if_pos ⟨hd (n,d) rfl,by simp;omega⟩]
  have hg':good gs:=by
   cases gs with
   |nil=>trivial
   |cons b l=>exact hg.2.2
  obtain ⟨q,hq⟩:=JPQ gs ⟨J7 d n s.reads,(n,d)⟩ hg' (fun g hm=>h0 g (by simp [hm])) (by simp only [Zx];omega) (fun g hh=>by
   cases gs with
   |nil=>cases hh
   |cons b l=>simp at hh;subst hh;exact .inr hg.2.1)
  refine ⟨q,?_⟩
  rw [List.map_cons,List.foldlM_cons,e]
  exact hq
theorem JTo {x:Pg}(h:ZF x=true):Yu (Zf x)=some x:=by
 have h':=h
 unfold ZF at h'
 simp only [Bool.and_eq_true,decide_eq_true_eq,ZD] at h'
 obtain ⟨⟨⟨h1,h2⟩,h3⟩,h4⟩:=h'
 have hh:((x.house.toNat:Nat):Int)=x.house:=Int.toNat_of_nonneg h1.1
 unfold Yu
 rw [JMB]
 unfold Yh
 cases hr:x.reads with
 |nil=>
  simp only
  rw [if_pos (JBr (by omega)),JB5,hh,←hr]
 |cons r t=>
  have hp:=JF2 h hr
  have hr0:=ZD.1 (List.all_eq_true.1 h3 r (by rw [hr];simp))
  have hrn:((r.toNat:Nat):Int)=r:=Int.toNat_of_nonneg hr0.1
  simp only
  rw [if_pos ⟨JBr (by omega),JBr (by omega)⟩,JB5,JB5,hh,hrn,←hr]
  obtain ⟨q,hq⟩:=JPQ (runs (J0 x.reads)) ⟨[r],(0,0)⟩ hp.good hp.by0 (by have:=hp.len;simp;omega) (fun _ _=>.inl rfl)
  rw [hq,hp.reads]
  rfl
theorem JVz {l:List Pg}(h:Yf l=0):JDg (YZ l)=some l:=by
 have hok:=(JCR h).2.1
 unfold JDg YZ
 rw [JM9 JNc]
 show List.mapM Yu _=_
 clear h
 induction l with
 |nil=>rfl
 |cons x l ih=>
  simp only [List.all_cons,Bool.and_eq_true] at hok
  rw [List.map_cons,List.mapM_cons,JTo hok.1,ih hok.2];rfl
theorem JTt {text:Bs}{l:List Pg}:JAv text=some l↔Yf l=0∧YZ l=text:=by
 unfold JAv
 constructor
 ·intro h
  obtain ⟨l',h1,h2⟩:=Option.bind_eq_some_iff.1 h
  split at h2
  ·next hc=>cases h2;exact ⟨hc,JVx h1⟩
  ·cases h2
 ·rintro ⟨h1,h2⟩
  subst h2
  rw [JVz h1]
  show (if _ then _ else _)=_
  rw [if_pos h1]
end Go.Bk
namespace Go.Bk
abbrev Bits:=List Bool
def JW:Nat→Nat→Bits
 |0,_=>[]
 |k+1,n=>JW k (n / 2)++[n%2==1]
def QG (s:Bits):Nat:=s.foldl (fun n b=>2*n+b.toNat) 0
theorem Qk:∀(k n:Nat),(JW k n).length=k
 |0,_=>rfl
 |k+1,n=>by simp [JW,Qk k]
theorem JDA (s:Bits)(b:Bool):QG (s++[b])=2*QG s+b.toNat:=by simp [QG]
theorem JH2 (n:Nat):(n%2==1).toNat=n%2:=by
 rcases Nat.mod_two_eq_zero_or_one n with h|h<;>rw [h]<;>rfl
theorem JAb:∀(k n:Nat),n<2^k→QG (JW k n)=n
 |0,n,h=>by simp at h;subst h;rfl
 |k+1,n,h=>by
  rw [JW,JDA,JAb k (n / 2) (by rw [Nat.pow_succ] at h;omega),JH2];omega
theorem JBb (s:Bits):QG s<2^s.length:=by
 induction s using JEk with
 |nil=>simp [QG]
 |snoc s b ih=>
  rw [JDA,List.length_append,List.length_singleton,Nat.pow_succ]
  have:b.toNat≤1:=by cases b<;>decide
  omega
theorem JNN (s:Bits):JW s.length (QG s)=s:=by
 induction s using JEk with
 |nil=>rfl
 |snoc s b ih=>
  rw [List.length_append,List.length_singleton,JW,JDA]
  have h1:(2*QG s+b.toNat) / 2=QG s:=by cases b<;>simp<;>omega
  have h2:((2*QG s+b.toNat)%2==1)=b:=by cases b<;>simp<;>omega
  rw [h1,h2,ih]
theorem JHf:∀(L a n:Nat),n<2^L→JW (a+L) n=List.replicate a false++JW L n
 |0,0,n,_=>rfl
 |0,a+1,n,h=>by
  simp at h;subst h
  show JW a (0 / 2)++[false]=_
  rw [Nat.zero_div,List.replicate_succ']
  have:=JHf 0 a 0 (by simp)
  rw [Nat.add_zero] at this
  rw [this];simp [JW]
 |L+1,a,n,h=>by
  rw [←Nat.add_assoc,JW,JHf L a (n / 2) (by rw [Nat.pow_succ] at h;omega),JW,List.append_assoc]
theorem JNM : ∀ (L n : Nat), 2 ^ L ≤ n → n < 2 ^ (L + 1) → JW (L + 1) n = true :: JW L n
  | 0, n, h1, h2 => by simp at h1 h2; have : n = 1 := by omega
                       subst this;rfl
  | L + 1, n, h1, h2 => by
    have h3:=JNM L (n / 2) (by rw [Nat.pow_succ] at h1;omega) (by rw [Nat.pow_succ] at h2;omega)
    rw [JW,h3];rfl
theorem JHg:∀(L n:Nat),JW L (n%2^L)=JW L n
 |0,_=>rfl
 |L+1,n=>by
  have h1:n%2^(L+1) / 2=n / 2%2^L:=by rw [Nat.pow_succ,Nat.mul_comm];exact Nat.mod_mul_right_div_self ..
  have h2:n%2^(L+1)%2=n%2:=Nat.mod_mod_of_dvd _ (by rw [Nat.pow_succ];exact Nat.dvd_mul_left _ _)
  rw [JW,h1,h2,JHg L,JW]
def bl (n:Nat):Nat:=if h:n<2 then 1 else bl (n / 2)+1
termination_by n
decreasing_by omega
theorem JIT {n:Nat}(h:n<2):bl n=1:=by rw [bl,dif_pos h]
theorem JLN {n:Nat}(h:¬n<2):bl n=bl (n / 2)+1:=by rw [bl,dif_neg h]
theorem JA5 (n:Nat):1≤bl n∧n<2^bl n∧(1≤n→2^(bl n-1)≤n):=by
 induction n using Nat.strongRecOn with
 |_ n ih=>
  by_cases h:n<2
  ·rw [JIT h];refine ⟨Nat.le_refl _,by simpa using h,fun h1=>by simpa using h1⟩
  ·obtain ⟨h1,h2,h3⟩:=ih (n / 2) (by omega)
   rw [JLN h]
   refine ⟨by omega,by rw [Nat.pow_succ];omega,fun _=>?_⟩
   have:=h3 (by omega)
   obtain ⟨k,hk⟩:∃k,bl (n / 2)=k+1:=⟨bl (n / 2)-1,by omega⟩
   rw [hk] at this ⊢
   simp only [Nat.add_sub_cancel] at this ⊢
   rw [Nat.pow_succ];omega
theorem JAi {n k:Nat}(h:n<2^k)(hk:1≤k):bl n≤k:=by
 obtain ⟨h1,_,h3⟩:=JA5 n
 rcases Nat.eq_zero_or_pos n with e|e
 ·rw [e,JIT (by omega)];exact hk
 ·refine Nat.le_of_not_lt fun hlt=>?_
  have h4:=h3 e
  have:=Nat.pow_le_pow_right (show 0<2 by omega) (show k≤bl n-1 by omega)
  omega
theorem JLO {n k:Nat}(h1:2^k≤n)(h2:n<2^(k+1)):bl n=k+1:=by
 have a:=JAi h2 (by omega)
 obtain ⟨h3,h4,_⟩:=JA5 n
 refine Nat.le_antisymm a (Nat.le_of_not_lt fun hlt=>?_)
 have:=Nat.pow_le_pow_right (show 0<2 by omega) (show bl n≤k by omega)
 omega
theorem JPv {n:Nat}(h1:1≤n)(h2:n<18446744073709551616):Lib.bitLen n=bl n:=by
 obtain ⟨a,b,c⟩:=Lib.bitLenAux_bounds 64 n h2 (by omega)
 unfold Lib.bitLen
 generalize Lib.bitLenAux 64 n=L at a b c
 obtain ⟨k,rfl⟩:∃k,L=k+1:=⟨L-1,by omega⟩
 exact (JLO b c).symm
def Qb (n:Nat):Bits:=JW (2*bl n-1) n
theorem JFj {n:Nat}(h:1≤n):Qb n=List.replicate (bl n-1) false++true::JW (bl n-1) n:=by
 obtain ⟨h1,h2,h3⟩:=JA5 n
 unfold Qb
 rw [show 2*bl n-1=(bl n-1)+bl n by omega,JHf _ _ _ h2]
 congr 1
 have:=JNM (bl n-1) n (h3 h) (by rw [show bl n-1+1=bl n by omega];exact h2)
 rw [show bl n-1+1=bl n by omega] at this
 exact this
structure Pl where
 num:Int
 cls:Int
 day:Int
 deriving DecidableEq,Inhabited
def JAV (x:Pl):Bool:=Ze x.num 1 65535&&Ze x.cls 0 7&&Ze x.day 0 131072
def Yo (l:List Pl):Int:=JAS l.length 60 (l.all JAV) (ZA (l.map Pl.num))
def JS (s:Bits):Nat:=s.count true
theorem Y3 (a b:Bits):JS (a++b)=JS a+JS b:=List.count_append ..
def QJ (x:Pl)(last:Int):Bits:=Qb (x.num-last).toNat++(JW 3 x.cls.toNat++JW 18 x.day.toNat)
def YS (s:Bits):Bool:=JS s%2==1
def Qc (x:Pl)(last:Int):Bits:=QJ x last++[YS (QJ x last)]
def J8:Int→List Pl→Bits
 |_,[]=>[]
 |last,x::l=>Qc x last++J8 x.num l
def QX (l:List Pl):Bits:=JW 8 l.length++J8 0 l
def Yn (s:Bits):Bits:=s++List.replicate ((8-s.length%8)%8) false
def JCN (s:Bits):UInt8:=UInt8.ofNat (QG s)
def Z2:Nat→Bits→Bs
 |0,_=>[]
 |k+1,s=>JCN (s.take 8)::Z2 k (s.drop 8)
def pack (s:Bits):Bs:=Z2 (s.length / 8) s
def JAm (l:List Pl):Bs:=pack (Yn (QX l))
def YA (l:List Pl):Bs:=if Yo l=0 then JAm l else []
def QY (b:Bs):Bits:=(b.map fun c=>JW 8 c.toNat).flatten
theorem JCh (b:Bs):(QY b).length=8*b.length:=by
 induction b with
 |nil=>rfl
 |cons c b ih=>simp only [QY,List.map_cons,List.flatten_cons,List.length_append,Qk,List.length_cons] at ih ⊢;omega
theorem JPE (a b:Bs):QY (a++b)=QY a++QY b:=by simp [QY]
theorem JPI:∀(k:Nat) (s:Bits),s.length=8*k→QY (Z2 k s)=s
 |0,s,h=>by
  have:s=[]:=List.eq_nil_of_length_eq_zero (by omega)
  subst this;rfl
 |k+1,s,h=>by
  have h8:(s.take 8).length=8:=by rw [List.length_take];omega
  have ih:=JPI k (s.drop 8) (by rw [List.length_drop];omega)
  unfold Z2
  show JW 8 (JCN (s.take 8)).toNat++QY (Z2 k (s.drop 8))=s
  rw [ih]
  have hv:=JBb (s.take 8)
  rw [h8] at hv
  have:(JCN (s.take 8)).toNat=QG (s.take 8):=JC2 (by omega)
  have h2:=JNN (s.take 8)
  rw [h8] at h2
  rw [this,h2,List.take_append_drop]
theorem JJq:∀(b:Bs),Z2 b.length (QY b)=b
 |[]=>rfl
 |c::b=>by
  show Z2 (b.length+1) (JW 8 c.toNat++QY b)=_
  unfold Z2
  rw [List.take_left' (Qk 8 _),List.drop_left' (Qk 8 _),JJq b]
  congr 1
  unfold JCN
  have:=c.toNat_lt
  rw [JAb 8 _ (by omega)]
  simp
theorem JNZ (s:Bits):∃k,(Yn s).length=8*k:=by
 refine ⟨(Yn s).length / 8,?_⟩
 unfold Yn
 rw [List.length_append,List.length_replicate]
 omega
theorem JPH (s:Bits):QY (pack (Yn s))=Yn s:=by
 obtain ⟨k,hk⟩:=JNZ s
 unfold pack
 rw [hk,show 8*k / 8=k by omega]
 exact JPI k _ hk
theorem JWP {a b:Bs}(h:QY a=QY b):a=b:=by
 have hl:=congrArg List.length h
 rw [JCh,JCh] at hl
 rw [←JJq a,←JJq b,h,show a.length=b.length by omega]
theorem JTk {s:Bits}{b:Bs}(h:Yn s=QY b):pack (Yn s)=b:=JWP (by rw [JPH,h])
def takeB (k:Nat)(s:Bits):Option (Nat × Bits):=if s.length<k then none else some (QG (s.take k),s.drop k)
theorem JB3 {a r:Bits}{k:Nat}(h:a.length=k):takeB k (a++r)=some (QG a,r):=by
 unfold takeB
 rw [if_neg (by rw [List.length_append];omega),List.take_left' h,List.drop_left' h]
theorem JB4 {k n:Nat}{s r:Bits}(h:takeB k s=some (n,r)):s=JW k n++r∧n<2^k:=by
 unfold takeB at h
 split at h
 ·cases h
 ·next hl=>
  cases h
  have hk:(s.take k).length=k:=by rw [List.length_take];omega
  have h1:=JNN (s.take k)
  have h2:=JBb (s.take k)
  rw [hk] at h1 h2
  rw [h1,List.take_append_drop]
  exact ⟨rfl,h2⟩
def gz:Nat→Bits→Option (Nat × Bits)
 |_,[]=>none
 |_,true::s=>some (0,s)
 |0,false::_=>none
 |f+1,false::s=>(gz f s).map fun p=>(p.1+1,p.2)
def JAW (last:Int)(s:Bits):Option (Pl × Bits):=
 (gz 16 s).bind fun p=>(takeB p.1 p.2).bind fun q=>(takeB 3 q.2).bind fun c=>(takeB 18 c.2).bind fun d=>(takeB 1 d.2).bind fun e=>
  if JS (s.take (s.length-e.2.length))%2=0 then some (⟨last+((2^p.1+q.1:Nat):Int),c.1,d.1⟩,e.2) else none
def JAX:Nat→Int→Bits→Option (List Pl × Bits)
 |0,_,s=>some ([],s)
 |n+1,last,s=>(JAW last s).bind fun p=>(JAX n p.1.num p.2).bind fun q=>some (p.1::q.1,q.2)
def Zg (b:Bs):Option (List Pl):=(takeB 8 (QY b)).bind fun p=>(JAX p.1 0 p.2).bind fun q=>
 if q.2.length<8∧Yo q.1=0∧JS q.2=0 then some q.1 else none
theorem JI8:∀(z f:Nat) (s:Bits),z≤f→gz f (List.replicate z false++true::s)=some (z,s)
 |0,f,s,_=>by cases f<;>rfl
 |z+1,0,s,h=>by omega
 |z+1,f+1,s,h=>by rw [List.replicate_succ,List.cons_append,gz,JI8 z f s (by omega)];rfl
theorem JHW:∀(f:Nat) (s:Bits) (z:Nat) (r:Bits),gz f s=some (z,r)→s=List.replicate z false++true::r∧z≤f
 |f,[],z,r,h=>by cases f<;>cases h
 |f,true::s,z,r,h=>by
  have:gz f (true::s)=some (0,s):=by cases f<;>rfl
  rw [this] at h;cases h;exact ⟨rfl,Nat.zero_le _⟩
 |0,false::s,z,r,h=>by cases h
 |f+1,false::s,z,r,h=>by
  rw [gz] at h
  obtain ⟨⟨z',r'⟩,h1,h2⟩:=Option.map_eq_some_iff.1 h
  cases h2
  obtain ⟨h3,h4⟩:=JHW f s z' r' h1
  exact ⟨by rw [h3,List.replicate_succ];rfl,by omega⟩
def fits (x:Pl)(last:Int):Prop:=(1≤x.num-last∧x.num-last≤65535)∧(0≤x.cls∧x.cls≤7)∧0≤x.day∧x.day≤131072
theorem JJh (s:Bits):JS (s++[YS s])%2=0:=by
 rw [Y3]
 unfold YS
 have:JS [JS s%2==1]=JS s%2:=by
  rcases Nat.mod_two_eq_zero_or_one (JS s) with h|h<;>rw [h]<;>rfl
 rw [this];omega
theorem JT3 (x:Pl)(last:Int)(h:fits x last):(⟨last+(((x.num-last).toNat:Nat):Int),((x.cls.toNat:Nat):Int),((x.day.toNat:Nat):Int)⟩:Pl)=x:=by
 obtain ⟨h1,h2,h3⟩:=h
 obtain ⟨a,b,c⟩:=x
 simp only at h1 h2 h3 ⊢
 rw [Pl.mk.injEq];omega
theorem JNn {x:Pl}{last:Int}(h:fits x last)(r:Bits):JAW last (Qc x last++r)=some (x,r):=by
 obtain ⟨h1,h2,h3⟩:=h
 have hn:1≤(x.num-last).toNat:=by omega
 obtain ⟨b1,b2,b3⟩:=JA5 (x.num-last).toNat
 have bk:=JAi (n:=(x.num-last).toNat) (k:=16) (by omega) (by omega)
 have e:Qc x last++r=List.replicate (bl (x.num-last).toNat-1) false++true::(JW (bl (x.num-last).toNat-1) (x.num-last).toNat++(JW 3 x.cls.toNat++(JW 18 x.day.toNat++([YS (QJ x last)]++r)))):=by
  unfold Qc
  rw [show QJ x last++[YS (QJ x last)]++r=QJ x last++([YS (QJ x last)]++r) by simp]
  generalize [YS (QJ x last)]++r=q
  unfold QJ
  rw [JFj hn];simp
 unfold JAW
 rw [e,JI8 _ _ _ (by omega)]
 simp only [Option.bind_some]
 rw [JB3 (Qk _ _)]
 simp only [Option.bind_some]
 rw [JB3 (Qk _ _)]
 simp only [Option.bind_some]
 rw [JB3 (Qk _ _)]
 simp only [Option.bind_some]
 rw [JB3 (k:=1) (a:=[YS (QJ x last)]) rfl]
 simp only [Option.bind_some]
 rw [←e,show (Qc x last++r).take ((Qc x last++r).length-r.length)=Qc x last by rw [List.length_append,Nat.add_sub_cancel,List.take_left]]
 unfold Qc
 rw [if_pos (JJh _)]
 have hv:2^(bl (x.num-last).toNat-1)+QG (JW (bl (x.num-last).toNat-1) (x.num-last).toNat)=(x.num-last).toNat:=by
  rw [←JHg,JAb _ _ (Nat.mod_lt _ (Nat.two_pow_pos _))]
  have hq:(x.num-last).toNat / 2^(bl (x.num-last).toNat-1)=1:=by
   have:=b3 hn
   have h4:(x.num-last).toNat<2*2^(bl (x.num-last).toNat-1):=by
    rw [Nat.mul_comm,←Nat.pow_succ,show (bl (x.num-last).toNat-1).succ=bl (x.num-last).toNat by omega];exact b2
   exact Nat.div_eq_of_lt_le (by omega) (by omega)
  have:=Nat.div_add_mod (x.num-last).toNat (2^(bl (x.num-last).toNat-1))
  rw [hq] at this;omega
 rw [hv,JAb 3 _ (by omega),JAb 18 _ (by omega),JT3 x last ⟨h1,h2,h3⟩]
theorem JJt {last:Int}{s r:Bits}{x:Pl}(h:JAW last s=some (x,r)):s=Qc x last++r:=by
 unfold JAW at h
 obtain ⟨⟨z,s1⟩,h1,h⟩:=Option.bind_eq_some_iff.1 h
 obtain ⟨⟨v,s2⟩,h2,h⟩:=Option.bind_eq_some_iff.1 h
 obtain ⟨⟨c,s3⟩,h3,h⟩:=Option.bind_eq_some_iff.1 h
 obtain ⟨⟨d,s4⟩,h4,h⟩:=Option.bind_eq_some_iff.1 h
 obtain ⟨⟨p,s5⟩,h5,h⟩:=Option.bind_eq_some_iff.1 h
 simp only at h2 h3 h4 h5 h
 split at h
 ·next hp=>
  simp only [Option.some.injEq,Prod.mk.injEq] at h
  obtain ⟨hx,hr⟩:=h
  subst hr
  obtain ⟨e1,k1⟩:=JHW _ _ _ _ h1
  obtain ⟨e2,k2⟩:=JB4 h2
  obtain ⟨e3,k3⟩:=JB4 h3
  obtain ⟨e4,k4⟩:=JB4 h4
  obtain ⟨e5,k5⟩:=JB4 h5
  have hn:(x.num-last).toNat=2^z+v:=by rw [←hx];simp only;omega
  have hc:x.cls.toNat=c:=by rw [←hx];simp
  have hd:x.day.toNat=d:=by rw [←hx];simp
  have hbl:bl (2^z+v)=z+1:=JLO (by omega) (by rw [Nat.pow_succ];omega)
  have hg:Qb (2^z+v)=List.replicate z false++true::JW z v:=by
   rw [JFj (by have:=Nat.two_pow_pos z;omega),hbl,Nat.add_sub_cancel]
   congr 2
   rw [←JHg z (2^z+v),Nat.add_mod_left,Nat.mod_eq_of_lt k2]
  have hb:s=QJ x last++(JW 1 p++s5):=by
   unfold QJ
   rw [hn,hc,hd,hg,e1,e2,e3,e4,e5];simp
  have hs:s.take (s.length-s5.length)=QJ x last++JW 1 p:=by
   rw [hb,←List.append_assoc,List.length_append,Nat.add_sub_cancel,List.take_left]
  rw [hs] at hp
  have hpar:JW 1 p=[YS (QJ x last)]:=by
   have:JW 1 p=[p%2==1]:=rfl
   rw [this] at hp ⊢
   rw [Y3] at hp
   unfold YS
   congr 1
   have ho:JS [p%2==1]=p%2:=by rcases Nat.mod_two_eq_zero_or_one p with h|h<;>rw [h]<;>rfl
   rw [ho] at hp
   rcases Nat.mod_two_eq_zero_or_one p with h6|h6<;>rcases Nat.mod_two_eq_zero_or_one (JS (QJ x last)) with h7|h7<;>rw [h6,h7]<;>omega
  unfold Qc
  rw [hb,hpar];simp
 ·cases h
theorem JNr:∀(n:Nat) (last:Int) (s r:Bits) (l:List Pl),JAX n last s=some (l,r)→s=J8 last l++r∧l.length=n
 |0,last,s,r,l,h=>by cases h;exact ⟨rfl,rfl⟩
 |n+1,last,s,r,l,h=>by
  unfold JAX at h
  obtain ⟨⟨x,s1⟩,h1,h⟩:=Option.bind_eq_some_iff.1 h
  obtain ⟨⟨l1,r1⟩,h2,h⟩:=Option.bind_eq_some_iff.1 h
  simp only [Option.some.injEq,Prod.mk.injEq] at h
  obtain ⟨rfl,rfl⟩:=h
  obtain ⟨e,hl⟩:=JNr n x.num s1 r1 l1 h2
  refine ⟨?_,by simp [hl]⟩
  rw [JJt h1,e,J8,List.append_assoc]
def chain:Int→List Pl→Prop
 |_,[]=>True
 |last,x::l=>fits x last∧chain x.num l
theorem JL0:∀(l:List Pl) (last:Int),0≤last→l.all JAV=true→ZA (last::l.map Pl.num)=true→chain last l
 |[],_,_,_,_=>trivial
 |x::l,last,h0,hok,hr=>by
  simp only [List.all_cons,Bool.and_eq_true] at hok
  have hx:=hok.1
  unfold JAV at hx
  simp only [Bool.and_eq_true,ZD] at hx
  simp only [List.map_cons,ZA,Bool.and_eq_true,decide_eq_true_eq] at hr
  exact ⟨⟨by omega,by omega,by omega⟩,JL0 l x.num (by omega) hok.2 hr.2⟩
theorem JCO {l:List Pl}(h:Yo l=0):chain 0 l∧l.length≤60:=by
 obtain ⟨h1,h2,h3⟩:=JCR h
 refine ⟨JL0 l 0 (by omega) h2 ?_,h1⟩
 cases l with
 |nil=>rfl
 |cons x l=>
  simp only [List.all_cons,Bool.and_eq_true] at h2
  have hx:=h2.1
  unfold JAV at hx
  simp only [Bool.and_eq_true,ZD] at hx
  simp only [List.map_cons,ZA,Bool.and_eq_true,decide_eq_true_eq] at h3 ⊢
  exact ⟨by omega,h3⟩
theorem JHm:∀(l:List Pl) (last:Int) (r:Bits),chain last l→JAX l.length last (J8 last l++r)=some (l,r)
 |[],_,_,_=>rfl
 |x::l,last,r,h=>by
  rw [List.length_cons,JAX,J8,List.append_assoc,JNn h.1]
  simp only [Option.bind_some]
  rw [JHm l x.num r h.2];rfl
theorem JDk (l:List Pl):QY (JAm l)=JW 8 l.length++(J8 0 l++List.replicate ((8-(QX l).length%8)%8) false):=by
 unfold JAm
 rw [JPH]
 unfold Yn QX
 rw [List.append_assoc]
theorem JJi (n:Nat):JS (List.replicate n false)=0:=by
 unfold JS;rw [List.count_replicate];simp
theorem JSw {s:Bits}(h:JS s=0):s=List.replicate s.length false:=by
 induction s with
 |nil=>rfl
 |cons b s ih=>
  unfold JS at h ih
  cases b with
  |true=>simp at h
  |false=>
   rw [List.count_cons] at h
   simp at h
   rw [List.length_cons,List.replicate_succ]
   congr 1
   exact ih h
theorem JNf {b:Bs}{l:List Pl}:Zg b=some l↔Yo l=0∧JAm l=b:=by
 constructor
 ·intro h
  unfold Zg at h
  obtain ⟨⟨n,s⟩,h1,h⟩:=Option.bind_eq_some_iff.1 h
  obtain ⟨⟨l1,r⟩,h2,h⟩:=Option.bind_eq_some_iff.1 h
  simp only at h2 h
  split at h
  ·next hc=>
   cases h
   obtain ⟨hr,he,ho⟩:=hc
   obtain ⟨e1,_⟩:=JB4 h1
   obtain ⟨e2,hl⟩:=JNr _ _ _ _ _ h2
   refine ⟨he,JTk ?_⟩
   have hu:QY b=QX l++r:=by rw [e1,e2];unfold QX;rw [hl,List.append_assoc]
   rw [hu]
   unfold Yn
   congr 1
   have h8:=JCh b
   rw [hu,List.length_append] at h8
   rw [show (8-(QX l).length%8)%8=r.length by omega]
   exact (JSw ho).symm
  ·cases h
 ·rintro ⟨h1,rfl⟩
  obtain ⟨hc,hl⟩:=JCO h1
  unfold Zg
  rw [JDk,JB3 (Qk _ _)]
  simp only [Option.bind_some]
  rw [JAb 8 _ (by omega),JHm l 0 _ hc]
  simp only [Option.bind_some]
  rw [if_pos ⟨by rw [List.length_replicate];omega,h1,JJi _⟩]
end Go.Bk
namespace Go.Mw
open Go.Proofs Go.Bk
theorem Jc:Tryz.prog.follows .mixedOrders=true:=by kernel_rfl
abbrev D.i (n:Int):D:=.raw (.int .i64 n)
@[go_sem] def ZR (n:Int):List D:=[.i n]
abbrev Q5 (l:List Int):D:=.sl 1 (l.map ZR)
@[go_sem] def encStr (l:Bs):List D:=[.raw (.string (bs l))]
abbrev JGF (l:List Bs):D:=.sl 1 (l.map encStr)
@[go_sem] def Yd (t:Tr):List D:=[.i t.flow,.i t.pour,.i t.shown]
abbrev JGJ (l:List Tr):D:=.sl 3 (l.map Yd)
abbrev trV (t:Tr):AV:=.val true ((Yd t).map .d)
@[go_sem] def Zm (x:Sh):List D:=[.i x.meter,JGJ x.tries]
abbrev JAY (l:List Sh):D:=.sl 2 (l.map Zm)
abbrev shV (x:Sh):AV:=.val true ((Zm x).map .d)
@[go_sem] def JAR (x:Pl):List D:=[.i x.num,.i x.cls,.i x.day]
abbrev JAK (l:List Pl):D:=.sl 3 (l.map JAR)
abbrev plV (x:Pl):AV:=.val true ((JAR x).map .d)
@[go_sem] def JAr (x:Pg):List D:=[.i x.house,Q5 x.reads]
abbrev JAU (l:List Pg):D:=.sl 2 (l.map JAr)
abbrev pgV (x:Pg):AV:=.val true ((JAr x).map .d)
abbrev JAj (l:Bs):D:=.sl 1 (Jr l)
def JIN (z:Bool):AL:=bif z then .ptr 990 0 else .d (.raw (.pointer none))
def JIU (l:Bs):AL:=if l=[] then .d (.raw (.slice none 0 0)) else .own 901 0 l.length l.length
def JHl (z:Bool)(l:Bs):List (Nat × AO):=[(990,.cells [JIN z,JIU l]),(901,.arr 5 1 (Jr l))]
theorem JLX:JIU []=.d (.raw (.slice none 0 0)):=rfl
theorem JIV {l:Bs}(h:l≠[]):JIU l=.own 901 0 l.length l.length:=if_neg h
theorem JK9:JIN true=.ptr 990 0:=rfl
theorem JK8:JIN false=.d (.raw (.pointer none)):=rfl
theorem JNJ (v:Value)(w:World):(callFunc 179 #[v]).run Tryz.prog w=.ok (.value v) w:=by
 rw [run_callFunc_extern Tryz.func179 JI JI JI (e:=Extern.AbiNoEscape.same) JI,Lib.run_noEscape];rfl
end Go.Mw
namespace Go.Mw
open Go.Proofs
open Go.Bk
theorem JLl (z:Bool)(l:Bs):Qr Tryz.prog 146 [.leaf (.ptr 990 0)] (JHl z l) (.ret (.tup []) (JHl true l)):=by
 unfold JHl
 rcases Bool.eq_false_or_eq_true z with hz|hz<;>subst hz<;>by_cases hl:l=[]
 ·skip
  subst hl
  rw [JLX]
  refine Js Jc Tryz.func146 rfl JGR JI rfl ?_
  refine JB.reg ?_
  iterate 5 (refine JA.o1 ZN ?_)
  refine JA.nil ?_
  refine JB.cnd ZN (fun hb6=>?_) (fun hb6=>?_)
  ·exact absurd hb6 (by simp)
  ·skip
   refine JB.reg ?_
   iterate 5 (refine JA.o1 ZN ?_)
   refine JA.val (JOS Tryz.underlying86 JI JD JD JD) rfl JD ?_ 
   refine JA.nil ?_
   refine JB.cnd ZN (fun hb19=>?_) (fun hb19=>?_)
   ·exact absurd hb19 (by simp)
   ·skip
    exact Ends.fin0 [990,901] (rs:=[]) rfl ZN JGW
 ·skip
  have hb:=JIV hl
  rw [hb]
  refine Js Jc Tryz.func146 rfl JGR JI rfl ?_
  refine JB.reg ?_
  iterate 5 (refine JA.o1 ZN ?_)
  refine JA.nil ?_
  refine JB.cnd ZN (fun hb6=>?_) (fun hb6=>?_)
  ·exact absurd hb6 (by simp)
  ·skip
   refine JB.reg ?_
   iterate 5 (refine JA.o1 ZN ?_)
   refine JA.val (JOS Tryz.underlying86 JI JD JD JD) rfl JD ?_ 
   refine JA.nil ?_
   refine JB.cnd ZN (fun hb19=>?_) (fun hb19=>?_)
   ·exact absurd hb19 (by simp)
   ·skip
    exact Ends.fin0 [990,901] (rs:=[]) rfl ZN JGW
 ·skip
  subst hl
  rw [JLX]
  refine Js Jc Tryz.func146 rfl JGR JI rfl ?_
  refine JB.reg ?_
  iterate 5 (refine JA.o1 ZN ?_)
  refine JA.nil ?_
  refine JB.cnd ZN (fun hb6=>?_) (fun hb6=>?_)
  ·skip
   refine JB.reg1 ?_
   iterate 2 (refine JA.o1 ZN ?_)
   refine JA.val (JOW Tryz.underlying86 Tryz.underlying250 (k:=2) JI (by decide) JD JD (by simp)) rfl JD ?_ 
   refine JA.val (JOV JNJ JD JD) rfl JD ?_ 
   refine JA.val (JOT Tryz.underlying250 Tryz.underlying86 JI JD JD (T:=90) rfl JI) rfl JD ?_ 
   iterate 3 (refine JA.o1 ZN ?_)
   refine JA.nil ?_
   exact Ends.fin0 [990,901] (rs:=[]) rfl ZN JGW
  ·exact absurd hb6 (by simp)
 ·skip
  have hb:=JIV hl
  rw [hb]
  refine Js Jc Tryz.func146 rfl JGR JI rfl ?_
  refine JB.reg ?_
  iterate 5 (refine JA.o1 ZN ?_)
  refine JA.nil ?_
  refine JB.cnd ZN (fun hb6=>?_) (fun hb6=>?_)
  ·skip
   refine JB.reg1 ?_
   iterate 2 (refine JA.o1 ZN ?_)
   refine JA.val (JOW Tryz.underlying86 Tryz.underlying250 (k:=2) JI (by decide) JD JD (by simp)) rfl JD ?_ 
   refine JA.val (JOV JNJ JD JD) rfl JD ?_ 
   refine JA.val (JOT Tryz.underlying250 Tryz.underlying86 JI JD JD (T:=90) rfl JI) rfl JD ?_ 
   iterate 3 (refine JA.o1 ZN ?_)
   refine JA.nil ?_
   exact Ends.fin0 [990,901] (rs:=[]) rfl ZN JGW
  ·exact absurd hb6 (by simp)
end Go.Mw
namespace Go.Mw
open Go.Proofs
open Go.Bk
theorem JRU:Qr Tryz.prog 146 [.leaf (.ptr 990 0)] [(990,.cells [.d (.raw (.pointer none)),.d (.raw (.slice none 0 0))]),(901,.arr 5 1 [])] (.ret (.tup []) [(990,.cells [.ptr 990 0,.d (.raw (.slice none 0 0))]),(901,.arr 5 1 [])]):=JLl false []
theorem JLy {l:Bs}(h:l≠[]):Qr Tryz.prog 146 [.leaf (.ptr 990 0)] [(990,.cells [.ptr 990 0,.own 901 0 l.length l.length]),(901,.arr 5 1 (Jr l))] (.ret (.tup []) [(990,.cells [.ptr 990 0,.own 901 0 l.length l.length]),(901,.arr 5 1 (Jr l))]):=by
 have:=JLl true l
 unfold JHl at this
 rw [JIV h] at this
 exact this
theorem JEE:Jr []=[]:=rfl
theorem JQf (l s:Bs)(hls:l++s≠[])(hlen:l.length+s.length≤140737488355328):Qr Tryz.prog 103 [.leaf (.ptr 990 0),.str s] [(990,.cells (YL 990 901 l)),(901,.arr 5 1 (Jr l))] (.ret (.tup [(false,[.d (.i s.length)]),(false,[.d (.raw .nilIface)])]) [(990,.cells (YL 990 901 (l++s))),(901,.arr 5 1 (Jr (l++s)))]):=by
 by_cases hl:l=[]
 ·skip
  subst hl
  have hs:s≠[]:=hls
  rw [JHk,JEW hls]
  refine Js Jc Tryz.func103 rfl (by simp only [List.length_cons,List.length_nil,Tryz.ntmps103];omega) JI rfl ?_
  refine JB.reg ?_
  iterate 2 (refine JA.o ?_)
  refine JA.nil (JB.reg ?_)
  refine JA.o ?_
  refine JA.lendG [(990,990),(901,901)] JD (JRU) JV (.inl ⟨[],by simp only [go_sem]<;>rfl,rfl⟩) JD Y7 rfl (by decide) YT ZZ V43 Zv JD ?_
  refine JA.nil (JB.reg ?_)
  iterate 6 (refine JA.o ?_)
  first|refine JA.appS 901 l s V87 JD JD Tryz.underlying53 Tryz.underlying9 (i:=Tryz.t5) JI ⟨by kernel_rfl,by kernel_rfl,by kernel_rfl⟩ hlen JD ?_|refine JA.appS 901 [] s V87 JD JD Tryz.underlying53 Tryz.underlying9 (i:=Tryz.t5) JI ⟨by kernel_rfl,by kernel_rfl,by kernel_rfl⟩ hlen JD ?_
  iterate 3 (refine JA.o ?_)
  refine JA.nil (JB.reg ?_)
  iterate 4 (refine JA.o ?_)
  refine JA.nil ?_
  exact Ends.fin [990,901] (rs:=[.tmp 4,.tmp 5]) rfl JD Yj
 ·skip
  rw [JEW hl,JEW hls]
  refine Js Jc Tryz.func103 rfl (by simp only [List.length_cons,List.length_nil,Tryz.ntmps103];omega) JI rfl ?_
  refine JB.reg ?_
  iterate 2 (refine JA.o ?_)
  refine JA.nil (JB.reg ?_)
  refine JA.o ?_
  refine JA.lendG [(990,990),(901,901)] JD (JLy hl) JV (.inl ⟨[],by simp only [go_sem]<;>rfl,rfl⟩) JD Y7 rfl (by decide) YT ZZ V43 Zv JD ?_
  refine JA.nil (JB.reg ?_)
  iterate 6 (refine JA.o ?_)
  first|refine JA.appS 901 l s V87 JD JD Tryz.underlying53 Tryz.underlying9 (i:=Tryz.t5) JI ⟨by kernel_rfl,by kernel_rfl,by kernel_rfl⟩ hlen JD ?_|refine JA.appS 901 [] s V87 JD JD Tryz.underlying53 Tryz.underlying9 (i:=Tryz.t5) JI ⟨by kernel_rfl,by kernel_rfl,by kernel_rfl⟩ hlen JD ?_
  iterate 3 (refine JA.o ?_)
  refine JA.nil (JB.reg ?_)
  iterate 4 (refine JA.o ?_)
  refine JA.nil ?_
  exact Ends.fin [990,901] (rs:=[.tmp 4,.tmp 5]) rfl JD Yj
theorem JQe (l:Bs)(c:UInt8)(hl:l≠[])(hlen:l.length+1≤140737488355328):Qr Tryz.prog 104 [.leaf (.ptr 990 0),.raw (.int .u8 c.toNat)] [(990,.cells (YL 990 901 l)),(901,.arr 5 1 (Jr l))] (.ret (.raw .nilIface) [(990,.cells (YL 990 901 (l++[c]))),(901,.arr 5 1 (Jr (l++[c])))]):=by
 have hne:l++[c]≠[]:=by simp
 rw [JEW hl,JEW hne]
 have hbl:=Y2 l
 refine Js Jc Tryz.func104 rfl (by simp only [List.length_cons,List.length_nil,Tryz.ntmps104];omega) JI rfl ?_
 refine JB.reg ?_
 have X:=Fx.mk hbl
 refine JA.o1 JC ?_
 refine JA.nil (JB.reg ?_)
 refine JA.o1 JC ?_
 refine JA.lendG [(990,990),(901,901)] JD (JLy hl) JV (.inl ⟨[],by simp only [go_sem]<;>rfl,rfl⟩) JD Y7 rfl (by decide) YT ZZ V43 Zv JD ?_
 refine JA.nil (JB.reg ?_)
 iterate 7 (refine JA.o1 JC ?_)
 refine JA.o1 V8 ?_
 iterate 3 (refine JA.o1 JC ?_)
 refine JA.nil (JB.reg ?_)
 refine JA.o1 JC ?_
 refine JA.nil ?_
 exact Ends.fin [990,901] (rs:=[.tmp 4]) rfl JC (by simp only [go_sem,X.h]<;>first|rfl|((repeat' (first|with_reducible_and_instances rfl|refine Q8 ?_ ?_ ?_|refine Q7 ?_|refine YN ?_|refine Q9 ?_ ?_|refine Q2 ?_|refine Q3 ?_|refine YO ?_|refine Q6 ?_ ?_|refine YK ?_ ?_|refine YM ?_|refine YH ?_|(refine Q4 ?_;omega)));all_goals (first|omega|(simp [Jr];done))))
theorem JGw (l:Bs)(ws:List Bs)(hw:blanks ws≠[])(hn:ws.length≤1000000)(hlen:l.length+(blanks ws).length+1≤140737488355328):Qr Tryz.prog 49 [.leaf (.ptr 990 0),.leaf (.d (JGF ws))] [(990,.cells (YL 990 901 l)),(901,.arr 5 1 (Jr l))] (.ret (.tup []) [(990,.cells (YL 990 901 (l++blanks ws++[10]))),(901,.arr 5 1 (Jr (l++blanks ws++[10])))]):=by
 have hj:=JJD ws
 have hne:l++blanks ws≠[]:=by simp [hw]
 have hl2:(l++blanks ws).length=l.length+(blanks ws).length:=List.length_append
 refine Js Jc Tryz.func49 rfl (by simp only [List.length_cons,List.length_nil,Tryz.ntmps49];omega) JI rfl ?_
 refine JB.opk 8 ?_
 have X:=Fx.mk hj
 iterate 4 (refine JF.o1 JC ?_)
 refine JF.cal (JLg ws [32] (by omega) (by rw [hj];omega)) JV JC V33 (Qm) JC JD JD ?_
 refine JF.lendG (ds:=[]) [(990,990),(901,901)] JD (JQf l (blanks ws) hne (by omega)) JV JD JD V28 rfl (by decide) JDF ZZ V41 rfl JD JD JD ?_
 refine JF.nil (Qs.fin QB QB ?_)
 refine JB.reg1 ?_
 iterate 3 (refine JA.o1 JC ?_)
 refine JA.lendG [(990,990),(901,901)] JD (JQe (l++blanks ws) 10 hne (by omega)) JV (.inl ⟨[],by simp only [go_sem]<;>rfl,rfl⟩) JD V9 rfl (by decide) JDF ZZ V41 Zv JD ?_
 refine JA.nil ?_
 exact Ends.fin0 [990,901] (rs:=[]) rfl JC YV
end Go.Mw
namespace Go.Bk
open Go Go.Mw
theorem JGp (l:Bs)(p:Nat)(h:p<l.length):(bs l)[p]'(by rw [Zb];exact h)=l[p]:=by
 have:=JLV l p
 rw [getElem?_pos (bs l) p (by rw [Zb];exact h),List.getElem?_eq_getElem h] at this
 exact Option.some.inj this
theorem JFD (l:Bs)(p:Nat)(h:p<l.length)(ha:l[p].toNat<128):Utf8.decode (bs l) p=(l[p].toNat,1):=by
 have:=decode_ascii (bs l) p (by rw [Zb];exact h) (by rw [JGp l p h];exact ha)
 rw [JGp l p h] at this
 exact this
theorem JRa (l:Bs)(p k:Nat)(h:p+k<l.length)(hc:((bs l).get! (p+k)).toNat / 64=2):128≤(l[p+k]).toNat:=by
 have e:(bs l).get! (p+k)=l[p+k]:=by
  have h1:(bs l).get! (p+k)=(bs l)[p+k]'(by rw [Zb];exact h):=by
   rw [ByteArray.get!]
   show (bs l).data[p+k]! = _
   rw [getElem!_pos]
   rfl
  rw [h1,JGp l _ h]
 rw [e] at hc
 omega
theorem JMC (l:Bs)(p:Nat)(h:p<l.length)(ha:128≤l[p].toNat):128≤(Utf8.decode (bs l) p).1∧1≤(Utf8.decode (bs l) p).2∧p+(Utf8.decode (bs l) p).2≤l.length ∧
  ∀i (hi:i<l.length),p≤i→i<p+(Utf8.decode (bs l) p).2→128≤l[i].toNat:=by
 obtain ⟨h1,h2⟩:=decode_high (bs l) p (by rw [Zb];exact h) (by rw [JGp l p h];exact ha)
 refine ⟨h1,h2,?_⟩
 have hone:∀i (hi:i<l.length),p≤i→i<p+1→128≤l[i].toNat:=fun i hi h3 h4=>by
  have:i=p:=by omega
  subst this;exact ha
 have c1:∀k,p+k<l.length→((bs l).get! (p+k)).toNat / 64=2→∀i (hi:i<l.length),i=p+k→128≤l[i].toNat:=fun k hk hc i hi e=>by subst e;exact JRa l p k hk hc
 unfold Utf8.decode
 simp only [Zb,Bool.and_eq_true,decide_eq_true_eq,beq_iff_eq]
 split
 ·exact ⟨by simp;omega,hone⟩
 ·split
  ·rename_i hh
   have e1:=c1 1 hh.2.1 hh.2.2
   split
   ·refine ⟨by simp;omega,fun i hi h3 h4=>?_⟩
    simp at h4
    by_cases e:i=p
    ·exact hone i hi (by omega) (by omega)
    ·exact e1 i hi (by omega)
   ·exact ⟨by simp;omega,hone⟩
  ·split
   ·rename_i hh
    have e1:=c1 1 hh.1.2.1 hh.1.2.2
    have e2:=c1 2 hh.2.1 hh.2.2
    split
    ·refine ⟨by simp;omega,fun i hi h3 h4=>?_⟩
     simp at h4
     by_cases e:i=p
     ·exact hone i hi (by omega) (by omega)
     ·by_cases e':i=p+1
      ·exact e1 i hi e'
      ·exact e2 i hi (by omega)
    ·exact ⟨by simp;omega,hone⟩
   ·split
    ·rename_i hh
     have e1:=c1 1 hh.1.1.2.1 hh.1.1.2.2
     have e2:=c1 2 hh.1.2.1 hh.1.2.2
     have e3:=c1 3 hh.2.1 hh.2.2
     split
     ·refine ⟨by simp;omega,fun i hi h3 h4=>?_⟩
      simp at h4
      by_cases e:i=p
      ·exact hone i hi (by omega) (by omega)
      ·by_cases e':i=p+1
       ·exact e1 i hi e'
       ·by_cases e'':i=p+2
        ·exact e2 i hi e''
        ·exact e3 i hi (by omega)
     ·exact ⟨by simp;omega,hone⟩
    ·exact ⟨by simp;omega,hone⟩
theorem JON {l:Bs}{p:Nat}(h:p<l.length)(h1:48≤(Utf8.decode (bs l) p).1)(h2:(Utf8.decode (bs l) p).1≤57):(Utf8.decode (bs l) p).2=1∧l[p].toNat=(Utf8.decode (bs l) p).1∧Qw l[p]=true:=by
 by_cases ha:l[p].toNat<128
 ·have:=JFD l p h ha
  rw [this] at h1 h2 ⊢
  exact ⟨rfl,rfl,JA8.2 ⟨h1,h2⟩⟩
 ·have:=(JMC l p h (by omega)).1
  omega
theorem JUu {l:Bs}{p:Nat}(h:p<l.length)(hn:¬(48≤(Utf8.decode (bs l) p).1∧(Utf8.decode (bs l) p).1≤57)):1≤(Utf8.decode (bs l) p).2∧p+(Utf8.decode (bs l) p).2≤l.length∧∀i (hi:i<l.length),p≤i→i<p+(Utf8.decode (bs l) p).2→Qw l[i]=false:=by
 by_cases ha:l[p].toNat<128
 ·have:=JFD l p h ha
  rw [this] at hn ⊢
  refine ⟨Nat.le_refl _,by simp;omega,fun i hi h3 h4=>?_⟩
  simp at h4
  have:i=p:=by omega
  subst this
  rw [←Bool.not_eq_true,JA8]
  exact hn
 ·obtain ⟨_,h2,h3,h4⟩:=JMC l p h (by omega)
  refine ⟨h2,h3,fun i hi h5 h6=>?_⟩
  have:=h4 i hi h5 h6
  rw [←Bool.not_eq_true,JA8]
  omega
theorem JRm (l:Bs)(p k:Nat)(h:p+k≤l.length)(hn:∀i (hi:i<l.length),p≤i→i<p+k→Qw l[i]=false):YX (l.take (p+k))=YX (l.take p):=by
 induction k with
 |zero=>rfl
 |succ k ih=>
  rw [←Nat.add_assoc,List.take_add_one,List.getElem?_eq_getElem (show p+k<l.length by omega),JML,ih (by omega) (fun i hi h1 h2=>hn i hi h1 (by omega))]
  have:=hn (p+k) (by omega) (by omega) (by omega)
  simp [YX,dig,this]
theorem JRk (l:Bs)(p:Nat)(h:p<l.length)(hd:Qw l[p]=true):YX (l.take (p+1))=YX (l.take p)+(l[p].toNat-48):=by
 rw [List.take_add_one,List.getElem?_eq_getElem h,JML]
 simp [YX,dig,hd]
end Go.Bk
namespace Go.Mw
open Go.Proofs
open Go.Bk
attribute [local go_sem] decide_true beq_self_eq_true bne_self_eq_false
def Je:Value:=.iface 172 (.agg #[.int .i64 8])
theorem JBO (n l h:Int):Ja Tryz.prog 142 [.int n,.int l,.int h] (.bool (Ze n l h)) []:=by
 refine Js Jc Tryz.func142 rfl (by simp only [List.length_cons,List.length_nil,Tryz.ntmps142];omega) JI rfl ?_
 refine JB.reg ?_
 refine JA.o1 JEw ?_
 refine JA.nil (JB.reg ?_)
 iterate 4 (refine JA.o1 JEw ?_)
 iterate 3 (refine JA.gop JD JEw JD ?_)
 iterate 2 (refine JA.o1 JEw ?_)
 refine JA.nil ?_
 exact Ends.fin [] (rs:=[.tmp 6]) rfl JEw (by simp only [go_sem,Ze]<;>first|rfl|exact Ql)
theorem Qv (b:Bool)(h:b=true):Ja Tryz.prog 55 [.bool b] (.tup []) []:=by
 subst h
 refine Js Jc Tryz.func55 rfl (by simp only [List.length_cons,List.length_nil,Tryz.ntmps55];omega) JI rfl ?_
 refine JB.reg ?_
 iterate 2 (refine JA.o ?_)
 refine JA.nil ?_
 refine JB.cnd JD (fun hb3=>?_) (fun hb3=>?_)
 ·exact absurd hb3 (by simp)
 ·skip
  exact Ends.fin0 [] (rs:=[]) rfl JD Yj
theorem Ye (b:Bool)(h:b=false):QZ Tryz.prog Je 55 [.bool b] []:=by
 subst h
 refine YG Jc Tryz.func55 rfl (by simp only [List.length_cons,List.length_nil,Tryz.ntmps55];omega) JI rfl ?_
 refine JB.reg ?_
 iterate 2 (refine JA.o ?_)
 refine JA.nil ?_
 refine JB.cnd JD (fun hb3=>?_) (fun hb3=>?_)
 ·skip
  refine JB.pan1 (pv:=Je) 2 rfl ?_
  iterate 2 (refine JA.o ?_)
  exact JA.pani (us:=[.int .i64 8]) JD rfl rfl
 ·exact absurd hb3 (by simp)
theorem JOO (n:Nat)(h:n<10):(48:Int)+(n:Int)=((48+n:Nat):Int):=by omega
theorem JQb (n:Nat)(hn:n≤9223372036854775807)(ih:∀m,m<n→Ja Tryz.prog 89 [.int m] (.str (Ji m)) []):Ja Tryz.prog 89 [.int n] (.str (Ji n)) []:=by
 refine Js Jc Tryz.func89 rfl (by simp only [List.length_cons,List.length_nil,Tryz.ntmps89];omega) JI rfl ?_
 refine JB.reg ?_
 refine JA.o ?_
 refine JA.nil (JB.assocS (JB.reg ?_))
 iterate 2 (refine JA.o ?_)
 refine JA.nil ?_
 refine JB.cndS JD (fun hb4=>?_) (fun hb4=>?_)
 ·skip
  have hlt:n<10:=by have:=of_decide_eq_true hb4;omega
  have hr:=JOO n hlt
  have hw:IntKind.i32.wrap ((48+n:Nat):Int)=((48+n:Nat):Int):=IntWalk.i32_in _ (by omega)
  have h64:IntKind.i64.wrap ((48:Int)+(n:Int))=((48+n:Nat):Int):=by rw [hr];exact IntWalk.i64_in _ (by omega)
  have ht:=JBa hlt
  refine JB.assocS (JB.reg ?_)
  have X:=((Fx.mk h64).a hw).a ht
  refine JA.o1 JC ?_
  iterate 2 (refine JA.o1 J4 ?_)
  refine JA.val (JOU Tryz.underlying21 Tryz.underlying9 (n:=48+n) (by omega) JD) rfl JD ?_ 
  refine JA.o1 JC ?_
  refine JA.nil (JB.retS ?_)
  exact Ends.fin [] (rs:=[.tmp 2]) rfl JC YV
 ·skip
  have hge:¬n<10:=by have:=of_decide_eq_false hb4;omega
  have hq:IntKind.i64.wrap (Int.tdiv (n:Int) 10)=((n / 10:Nat):Int):=by rw [Int.tdiv_eq_ediv_of_nonneg (by omega)];rw [IntWalk.i64_in _ (by omega)];omega
  have hm:Int.tmod (n:Int) 10=((n%10:Nat):Int):=by rw [Int.tmod_eq_emod_of_nonneg (by omega)];omega
  have hl:=JAa (n:=n / 10) (k:=20) (by omega) (by omega)
  have hr:=JOO (n%10) (by omega)
  have hw:IntKind.i32.wrap ((48+n%10:Nat):Int)=((48+n%10:Nat):Int):=IntWalk.i32_in _ (by omega)
  have h64:IntKind.i64.wrap ((48:Int)+((n%10:Nat):Int))=((48+n%10:Nat):Int):=by rw [hr];exact IntWalk.i64_in _ (by omega)
  have ht:=JDi hge
  refine JB.skipS (JB.reg ?_)
  have X:=((((Fx.mk hq).a hm).a h64).a hw).a ht
  refine JA.o1 JC ?_
  refine JA.o1 J4 ?_
  refine JA.c1 (ih (n / 10) (by omega)) JC JC ?_
  refine JA.o1 JC ?_
  iterate 3 (refine JA.o1 J4 ?_)
  refine JA.val (JOU Tryz.underlying21 Tryz.underlying9 (n:=48+n%10) (by omega) JD) rfl JD ?_ 
  refine JA.o1 J4 ?_
  refine JA.o1 JC ?_
  refine JA.nil ?_
  exact Ends.fin [] (rs:=[.tmp 2]) rfl JC YV
theorem JIX:∀(n:Nat),n≤9223372036854775807→Ja Tryz.prog 89 [.int n] (.str (Ji n)) []:=by
 intro n
 induction n using Nat.strongRecOn with
 |_ n ih=>exact fun hn=>JQb n hn fun m hm=>ih m hm (by omega)
end Go.Mw
namespace Go.Mw
open Go.Proofs
open Go.Bk
attribute [local go_sem] decide_true beq_self_eq_true bne_self_eq_false
theorem JG1 (s:Bs)(c:UInt8)(n:Nat)(hs:s.length≤1000000)(hn:n≤1000000):Ja Tryz.prog 77 [.str s,.str [c],.int n] (.str (pad c n s)) []:=by
 refine Js Jc Tryz.func77 rfl (by simp only [List.length_cons,List.length_nil,Tryz.ntmps77];omega) JI rfl ?_
 refine JB.reg ?_
 refine JA.o ?_
 refine JA.nil (JB.blk ?_)
 refine JB.forA [0,1,2] [] (n-s.length) (fun k=>[.slot 0 (.str (List.replicate k c++s))]) (fun _=>True) (fun k=>by simp only [go_sem]<;>rfl) (by simp only [go_sem,List.replicate_zero]<;>rfl) ?_ (fun k hk hX=>?_)
 ·trivial
 ·skip
  refine JB.assocS (JB.reg ?_)
  iterate 4 (refine JA.o ?_)
  refine JA.nil ?_
  refine JB.cndS JD (fun hb10=>?_) (fun hb10=>?_)
  ·skip
   have hlt:k+s.length<n:=by have:=of_decide_eq_true hb10;omega
   refine JB.skipS (JB.blk1 (JB.reg1 ?_))
   iterate 2 (refine JA.o ?_)
   refine JA.o1 V72 ?_
   refine JA.o ?_
   refine JA.nil (Yi.nrm ?_)
   refine Jb.nxt ?_ ?_ ?_
   ·omega
   ·exact JO.kp [0,1,2] [] (by simp only [go_sem]<;>first|((repeat' (first|with_reducible_and_instances rfl|refine Q8 ?_ ?_ ?_|refine Q7 ?_|refine YN ?_|refine Q9 ?_ ?_|refine Q2 ?_|refine Q3 ?_|refine YO ?_|refine Q6 ?_ ?_|refine YK ?_ ?_|refine YM ?_|refine YH ?_|(refine Q4 ?_;omega)));all_goals (simp [List.replicate_succ];done))|rfl)
   ·trivial
  ·skip
   have hge:¬k+s.length<n:=by have:=of_decide_eq_false hb10;omega
   have hke:k=n-s.length:=by omega
   subst hke
   refine JB.exitS (Jb.ext (JY.hit (JB.reg ?_)))
   iterate 2 (refine JA.o1 (by simp only [go_sem,pad]<;>rfl) ?_)
   refine JA.nil ?_
   exact Ends.fin [] (rs:=[.tmp 6]) rfl (by simp only [go_sem,pad]<;>rfl) (by simp only [go_sem,pad]<;>first|rfl|exact Ql)
theorem JRj (l:Bs)(k:Nat)(h:l.length≤1000000):YX (l.take k)≤9000000:=by
 have:=JRl (l.take k)
 have:(l.take k).length≤l.length:=by rw [List.length_take];omega
 omega
end Go.Mw
namespace Go.Mw
open Go.Proofs
open Go.Bk
attribute [local go_sem] decide_true beq_self_eq_true bne_self_eq_false
theorem g64:∃g,Tryz.prog.globalNamed "internal/strconv.uint64pow10" = some g:=Option.isSome_iff_exists.1 (show (Tryz.prog.globalNamed "internal/strconv.uint64pow10").isSome=true by kernel_rfl)
theorem JGt (n:Nat)(h:n≤9223372036854775807):Ja Tryz.prog 46 [.int n] (.str (Ji n)) []:=by
 obtain ⟨g,hg⟩:=g64
 have:=JQR (n:Int) (by omega) (by omega) g hg
 rwa [JSg] at this
theorem JGs (m:Int)(h0:0≤m)(h1:m≤9223372036854775807):Ja Tryz.prog 46 [.int m] (.str (Ji m.toNat)) []:=by
 have:=JGt m.toNat (by omega)
 rwa [Int.toNat_of_nonneg h0] at this
theorem JN6 (c:UInt8):∀n:Nat,Lib.repeatL [c] n=List.replicate n c
 |0=>rfl
 |n+1=>by rw [Lib.repeatL,JN6 c n,List.replicate_succ];rfl
theorem JQX (c:UInt8)(n:Nat)(h:n≤1000000):Ja Tryz.prog 131 [.str [c],.int n] (.str (List.replicate n c)) []:=by
 have:=JQY [c] n (by omega) JAN
 rwa [JN6] at this
theorem JSo (a b:Nat):JBx false 0 ((a:Int)-(b:Int))=((a-b:Nat):Int):=by
 show (if (0:Int)<_ then _ else _)=_
 split<;>omega
theorem JId (n w:Nat)(c:UInt8)(hn:n≤9223372036854775807)(hw:w≤1000):Ja Tryz.prog 81 [.int n,.int w,.str [c]] (.str (pad c w (Ji n))) []:=by
 have htl:=JAa (n:=n) (k:=20) (by omega) (by omega)
 have hsub:IntKind.i64.wrap ((w:Int)-((Ji n).length:Int))=(w:Int)-((Ji n).length:Int):=IntWalk.i64_in _ (by omega)
 have hmx:=JSo w (Ji n).length
 refine Js Jc Tryz.func81 rfl (by simp only [List.length_cons,List.length_nil,Tryz.ntmps81];omega) JI rfl ?_
 refine JB.reg ?_
 have X:=Fx.mk hmx
 refine JA.o1 JA0 ?_
 refine JA.nil (JB.reg ?_)
 refine JA.o1 JA0 ?_
 refine JA.c1 (JGt n hn) JA0 JA0 ?_
 refine JA.o1 JA0 ?_
 refine JA.nil (JB.reg ?_)
 iterate 4 (refine JA.o1 JA0 ?_)
 refine JA.o1 V67 ?_
 refine JA.o1 JA0 ?_
 refine JA.c1 (JQX c (w-(Ji n).length) (by omega)) JA0 JA0 ?_
 refine JA.o1 JA0 ?_
 refine JA.o1 V67 ?_
 refine JA.o1 JA0 ?_
 refine JA.nil ?_
 exact Ends.fin [] (rs:=[.tmp 6]) rfl JA0 (by simp only [go_sem,X.h,pad]<;>first|rfl|exact Ql)
theorem JE8 (l:Bs)(hl:l.length≤1000000):Ja Tryz.prog 82 [.str l] (.str (chk l)) []:=by
 have hch:chk l=Ji (YX l%10):=rfl
 refine Js Jc Tryz.func82 rfl (by simp only [List.length_cons,List.length_nil,Tryz.ntmps82];omega) JI rfl ?_
 refine JB.reg ?_
 have X:=Fx.mk hch
 refine JA.o1 JC ?_
 refine JA.nil (JB.reg ?_)
 refine JA.o1 JC ?_
 refine JA.nil (JB.assocS (JB.reg ?_))
 iterate 2 (refine JA.o1 JC ?_)
 refine JA.nil (JB.blk ?_)
 refine JB.whl [3,7] [7] (fun (p:Nat)=>[.slot 3 (.int (YX (l.take p))),.slot 7 (.leaf (.obj 7)),.obj 7 (.sit (bs l) p)]) (fun p=>p≤l.length) (fun p=>l.length-p) (0) (fun p=>by simp only [go_sem]<;>rfl) (by simp only [go_sem,X.h,Int.natCast_zero]<;>rfl) ?_ (fun p hX=>?_)
 ·exact Nat.zero_le _
 ·skip
  have hbd:=JRj l p hl
  by_cases hp:p<l.length
  ·skip
   refine JB.reg ?_
   have X:=X.a hp
   iterate 2 (refine JA.o1 JC ?_)
   refine JA.nil ?_
   refine JB.cndS JC (fun hb9=>?_) (fun hb9=>?_)
   ·skip
    refine JB.skipS (JB.blk1 (JB.reg ?_))
    iterate 2 (refine JA.o1 JC ?_)
    refine JA.nil (JB.reg ?_)
    iterate 3 (refine JA.o1 JC ?_)
    iterate 2 (refine JA.gop JD JC JD ?_)
    refine JA.o1 JC ?_
    refine JA.nil ?_
    refine JB.cnd JC (fun hb16=>?_) (fun hb16=>?_)
    ·skip
     have h1:48≤(Utf8.decode (bs l) p).1∧(Utf8.decode (bs l) p).1≤57:=by
      have h:=hb16
      rw [Bool.and_eq_true] at h
      have h1:=of_decide_eq_true h.1
      have h2:=of_decide_eq_true h.2
      omega
     obtain ⟨g1,g2,g3⟩:=JON hp h1.1 h1.2
     have g4:=JRk l p hp g3
     have hw1:IntKind.i32.wrap (((Utf8.decode (bs l) p).1:Int)-48)=(((Utf8.decode (bs l) p).1-48:Nat):Int):=by rw [IntWalk.i32_in _ (by omega)];omega
     have hw2:IntKind.i64.wrap (((Utf8.decode (bs l) p).1-48:Nat):Int)=(((Utf8.decode (bs l) p).1-48:Nat):Int):=IntWalk.i64_in _ (by omega)
     have hw3:IntKind.i64.wrap ((YX (l.take p):Int)+(((Utf8.decode (bs l) p).1-48:Nat):Int))=(YX (l.take (p+(Utf8.decode (bs l) p).2)):Int):=by rw [g1,g4,g2,IntWalk.i64_in _ (by omega)];omega
     refine JB.reg1 ?_
     have X:=((X.a hw1).a hw2).a hw3
     iterate 2 (refine JA.o1 JC ?_)
     iterate 3 (refine JA.o1 J4 ?_)
     refine JA.o1 JC ?_
     refine JA.nil (Yi.nrm ?_)
     refine Y8.nxt (p+(Utf8.decode (bs l) p).2) ?_ ?_ ?_
     ·show l.length-(p+(Utf8.decode (bs l) p).2)<l.length-p;omega
     ·show p+(Utf8.decode (bs l) p).2≤l.length;omega
     ·exact JO.kp [3,7] [7] ZI
    ·skip
     have h1:¬(48≤(Utf8.decode (bs l) p).1∧(Utf8.decode (bs l) p).1≤57):=by
      intro ⟨h1,h2⟩
      have h:=hb16
      rw [decide_eq_true (by omega),decide_eq_true (by omega)] at h
      cases h
     obtain ⟨g1,g2,g3⟩:=JUu hp h1
     have g4:=JRm l p _ g2 g3
     refine Yi.nrm ?_
     refine Y8.nxt (p+(Utf8.decode (bs l) p).2) ?_ ?_ ?_
     ·show l.length-(p+(Utf8.decode (bs l) p).2)<l.length-p;omega
     ·show p+(Utf8.decode (bs l) p).2≤l.length;exact g2
     ·exact JO.kp [3,7] [7] (by simp only [go_sem,hch,hp,g4]<;>first|exact Ql|rfl)
   ·exact absurd hb9 (by simp)
  ·skip
   have hpe:p=l.length:=by omega
   subst hpe
   have htk:l.take l.length=l:=List.take_length
   have hm:Int.tmod ((YX l:Nat):Int) 10=((YX l%10:Nat):Int):=by rw [Int.tmod_eq_emod_of_nonneg (by omega)];omega
   refine JB.reg ?_
   have X:=((X.a hp).a htk).a hm
   iterate 2 (refine JA.o1 JC ?_)
   refine JA.nil ?_
   refine JB.cndS JC (fun hb9=>?_) (fun hb9=>?_)
   ·exact absurd hb9 (by simp)
   ·skip
    refine JB.exitS (Y8.ext (JY.hit (JB.reg ?_)))
    refine JA.o1 JC ?_
    refine JA.o1 J4 ?_
    refine JA.c1 (JGt (YX l%10) (by omega)) JC JC ?_
    refine JA.o1 JC ?_
    refine JA.nil ?_
    exact Ends.fin [] (rs:=[.tmp 2]) rfl JC YV
theorem JE9:Ja Tryz.prog 132 [] (.val true [.d (.i 6),.d (.i 7),.d (.i 7)]) []:=by
 refine Js Jc Tryz.func132 rfl (by simp only [List.length_cons,List.length_nil,Tryz.ntmps132];omega) JI rfl ?_
 refine JB.reg ?_
 refine JA.o ?_
 refine JA.nil (JB.reg ?_)
 iterate 2 (refine JA.o ?_)
 refine JA.nil ?_
 exact Ends.fin [] (rs:=[.cell 0 209]) rfl JD Yj
end Go.Mw
