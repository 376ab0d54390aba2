/- Closed facts on the program's table of types. -/
import Derived.Test.YtpmdcdglfeicaaaGreatDoorD1
import Derived.Test.YtpmdcdglfeicaaaGreatDoorProg
import Derived.Test.YtpmdcdglfeicaaaGreatDoorB3
import Derived.Shelf.Lays
import Derived.Shelf.LaysM
import GoSem.Extern.Twins
import Derived.Test.YtpmdcdglfeicaaaGreatDoorB4
import Derived.Shelf.Strings.Prefix
import Derived.Shelf.Strings.OnBuilder
import Derived.Shelf.Strings.Repeat
import Derived.Shelf.Strings.Trim
import Derived.Shelf.Strings.SplitShaped
import Derived.Shelf.Strings.Shaped
import Derived.Shelf.Strconv.Itoa3
import Derived.Shelf.Small.Bits
import Derived.Lib.AppendIntMem
import Derived.WalkSmall
import Derived.Lib.ItoaLen
import Derived.Lib.Join
import Derived.Lib.Repeat
import Derived.Lib.TrimByte
import Derived.Lib.Strings
import Derived.Lib.BitFns
import Derived.Laws.RangeAny
import Derived.Laws.RangeString
import Derived.Test.YtpmdcdglfeicaaaGreatDoorB5
set_option maxRecDepth 100000
set_option maxHeartbeats 2000000
set_option linter.unusedSimpArgs false
set_option linter.unusedVariables false
set_option linter.unusedSectionVars false
set_option linter.deprecated false
namespace Go.Mw
open Go.Proofs
@[go_sem] theorem JWy:Jo Tryz.prog 3=some 1∧QE Tryz.prog 3=some 8∧J3 Tryz.prog 3=some false∧J0 Tryz.prog 3=none∧QA Tryz.prog 3=some IntKind.i64∧J7 Tryz.prog 3=false∧QO Tryz.prog 3=false∧QI Tryz.prog 3=none∧QD Tryz.prog 3=none∧QJ Tryz.prog 3=none∧QS Tryz.prog 3=none∧J9 Tryz.prog 3=some (false,[D.raw (Value.int IntKind.i64 (0))])∧Program.concrete Tryz.prog 3=true:=by and_intros<;>kernel_rfl
@[go_sem] theorem JW1:Jo Tryz.prog 4=some 1∧QE Tryz.prog 4=some 1∧J3 Tryz.prog 4=some false∧J0 Tryz.prog 4=none∧QA Tryz.prog 4=none∧J7 Tryz.prog 4=false∧QO Tryz.prog 4=true∧QI Tryz.prog 4=none∧QD Tryz.prog 4=none∧QJ Tryz.prog 4=none∧QS Tryz.prog 4=none∧J9 Tryz.prog 4=some (false,[D.raw (Value.bool false)])∧Program.concrete Tryz.prog 4=true:=by and_intros<;>kernel_rfl
@[go_sem] theorem JW2:Jo Tryz.prog 5=some 1∧QE Tryz.prog 5=some 1∧J3 Tryz.prog 5=some false∧J0 Tryz.prog 5=none∧QA Tryz.prog 5=some IntKind.u8∧J7 Tryz.prog 5=false∧QO Tryz.prog 5=false∧QI Tryz.prog 5=none∧QD Tryz.prog 5=none∧QJ Tryz.prog 5=none∧QS Tryz.prog 5=none∧J9 Tryz.prog 5=some (false,[D.raw (Value.int IntKind.u8 (0))])∧Program.concrete Tryz.prog 5=true:=by and_intros<;>kernel_rfl
@[go_sem] theorem JXC:Jo Tryz.prog 9=some 1∧QE Tryz.prog 9=some 16∧J3 Tryz.prog 9=some false∧J0 Tryz.prog 9=none∧QA Tryz.prog 9=none∧J7 Tryz.prog 9=true∧QO Tryz.prog 9=false∧QI Tryz.prog 9=none∧QD Tryz.prog 9=none∧QJ Tryz.prog 9=none∧QS Tryz.prog 9=none∧J9 Tryz.prog 9=some (false,[D.raw (Value.string (ByteArray.mk (List.toArray [])))])∧Program.concrete Tryz.prog 9=true:=by and_intros<;>kernel_rfl
@[go_sem] theorem JWd:Jo Tryz.prog 20=some 1∧QE Tryz.prog 20=some 16∧J3 Tryz.prog 20=some false∧J0 Tryz.prog 20=none∧QA Tryz.prog 20=none∧J7 Tryz.prog 20=false∧QO Tryz.prog 20=false∧QI Tryz.prog 20=none∧QD Tryz.prog 20=none∧QJ Tryz.prog 20=none∧QS Tryz.prog 20=none∧J9 Tryz.prog 20=some (false,[D.raw Value.nilIface])∧Program.concrete Tryz.prog 20=false:=by and_intros<;>kernel_rfl
@[go_sem] theorem JWj:Jo Tryz.prog 21=some 1∧QE Tryz.prog 21=some 4∧J3 Tryz.prog 21=some false∧J0 Tryz.prog 21=none∧QA Tryz.prog 21=some IntKind.i32∧J7 Tryz.prog 21=false∧QO Tryz.prog 21=false∧QI Tryz.prog 21=none∧QD Tryz.prog 21=none∧QJ Tryz.prog 21=none∧QS Tryz.prog 21=none∧J9 Tryz.prog 21=some (false,[D.raw (Value.int IntKind.i32 (0))])∧Program.concrete Tryz.prog 21=true:=by and_intros<;>kernel_rfl
@[go_sem] theorem JWu:Jo Tryz.prog 28=some 1∧QE Tryz.prog 28=some 24∧J3 Tryz.prog 28=some false∧J0 Tryz.prog 28=some 31∧QA Tryz.prog 28=none∧J7 Tryz.prog 28=false∧QO Tryz.prog 28=false∧QI Tryz.prog 28=none∧QD Tryz.prog 28=none∧QJ Tryz.prog 28=none∧QS Tryz.prog 28=none∧J9 Tryz.prog 28=some (false,[D.raw (Value.slice none 0 0)])∧Program.concrete Tryz.prog 28=true:=by and_intros<;>kernel_rfl
@[go_sem] theorem JWx:Jo Tryz.prog 29=some 1∧QE Tryz.prog 29=some 24∧J3 Tryz.prog 29=some false∧J0 Tryz.prog 29=some 3∧QA Tryz.prog 29=none∧J7 Tryz.prog 29=false∧QO Tryz.prog 29=false∧QI Tryz.prog 29=none∧QD Tryz.prog 29=none∧QJ Tryz.prog 29=none∧QS Tryz.prog 29=none∧J9 Tryz.prog 29=some (false,[D.raw (Value.slice none 0 0)])∧Program.concrete Tryz.prog 29=true:=by and_intros<;>kernel_rfl
@[go_sem] theorem JWz:Jo Tryz.prog 31=some 2∧QE Tryz.prog 31=some 32∧J3 Tryz.prog 31=some true∧J0 Tryz.prog 31=none∧QA Tryz.prog 31=none∧J7 Tryz.prog 31=false∧QO Tryz.prog 31=false∧QI Tryz.prog 31=none∧QD Tryz.prog 31=none∧QJ Tryz.prog 31=none∧QS Tryz.prog 31=some [(0,1),(1,1)]∧J9 Tryz.prog 31=some (true,[D.raw (Value.int IntKind.i64 (0)),D.raw (Value.slice none 0 0)])∧Program.concrete Tryz.prog 31=true:=by and_intros<;>kernel_rfl
@[go_sem] theorem JW0:Jo Tryz.prog 35=some 1∧QE Tryz.prog 35=some 8∧J3 Tryz.prog 35=some false∧J0 Tryz.prog 35=none∧QA Tryz.prog 35=some IntKind.i64∧J7 Tryz.prog 35=false∧QO Tryz.prog 35=false∧QI Tryz.prog 35=none∧QD Tryz.prog 35=none∧QJ Tryz.prog 35=none∧QS Tryz.prog 35=none∧J9 Tryz.prog 35=some (false,[D.raw (Value.int IntKind.i64 (0))])∧Program.concrete Tryz.prog 35=true:=by and_intros<;>kernel_rfl
@[go_sem] theorem JW3:Jo Tryz.prog 52=some 1∧QE Tryz.prog 52=some 24∧J3 Tryz.prog 52=some false∧J0 Tryz.prog 52=some 70∧QA Tryz.prog 52=none∧J7 Tryz.prog 52=false∧QO Tryz.prog 52=false∧QI Tryz.prog 52=none∧QD Tryz.prog 52=none∧QJ Tryz.prog 52=none∧QS Tryz.prog 52=none∧J9 Tryz.prog 52=some (false,[D.raw (Value.slice none 0 0)])∧Program.concrete Tryz.prog 52=true:=by and_intros<;>kernel_rfl
@[go_sem] theorem JW4:Jo Tryz.prog 53=some 1∧QE Tryz.prog 53=some 24∧J3 Tryz.prog 53=some false∧J0 Tryz.prog 53=some 5∧QA Tryz.prog 53=none∧J7 Tryz.prog 53=false∧QO Tryz.prog 53=false∧QI Tryz.prog 53=none∧QD Tryz.prog 53=none∧QJ Tryz.prog 53=none∧QS Tryz.prog 53=none∧J9 Tryz.prog 53=some (false,[D.raw (Value.slice none 0 0)])∧Program.concrete Tryz.prog 53=true:=by and_intros<;>kernel_rfl
@[go_sem] theorem JW5:Jo Tryz.prog 61=some 1∧QE Tryz.prog 61=some 24∧J3 Tryz.prog 61=some false∧J0 Tryz.prog 61=some 68∧QA Tryz.prog 61=none∧J7 Tryz.prog 61=false∧QO Tryz.prog 61=false∧QI Tryz.prog 61=none∧QD Tryz.prog 61=none∧QJ Tryz.prog 61=none∧QS Tryz.prog 61=none∧J9 Tryz.prog 61=some (false,[D.raw (Value.slice none 0 0)])∧Program.concrete Tryz.prog 61=true:=by and_intros<;>kernel_rfl
@[go_sem] theorem JW6:Jo Tryz.prog 65=some 1∧QE Tryz.prog 65=some 8∧J3 Tryz.prog 65=some false∧J0 Tryz.prog 65=none∧QA Tryz.prog 65=none∧J7 Tryz.prog 65=false∧QO Tryz.prog 65=false∧QI Tryz.prog 65=none∧QD Tryz.prog 65=none∧QJ Tryz.prog 65=none∧QS Tryz.prog 65=none∧J9 Tryz.prog 65=some (false,[D.raw Value.nilFunc])∧Program.concrete Tryz.prog 65=true:=by and_intros<;>kernel_rfl
@[go_sem] theorem JW7:Jo Tryz.prog 66=some 1∧QE Tryz.prog 66=some 24∧J3 Tryz.prog 66=some false∧J0 Tryz.prog 66=some 146∧QA Tryz.prog 66=none∧J7 Tryz.prog 66=false∧QO Tryz.prog 66=false∧QI Tryz.prog 66=none∧QD Tryz.prog 66=none∧QJ Tryz.prog 66=none∧QS Tryz.prog 66=none∧J9 Tryz.prog 66=some (false,[D.raw (Value.slice none 0 0)])∧Program.concrete Tryz.prog 66=true:=by and_intros<;>kernel_rfl
@[go_sem] theorem JW8:Jo Tryz.prog 68=some 2∧QE Tryz.prog 68=some 32∧J3 Tryz.prog 68=some true∧J0 Tryz.prog 68=none∧QA Tryz.prog 68=none∧J7 Tryz.prog 68=false∧QO Tryz.prog 68=false∧QI Tryz.prog 68=none∧QD Tryz.prog 68=none∧QJ Tryz.prog 68=none∧QS Tryz.prog 68=some [(0,1),(1,1)]∧J9 Tryz.prog 68=some (true,[D.raw (Value.int IntKind.i64 (0)),D.raw (Value.slice none 0 0)])∧Program.concrete Tryz.prog 68=true:=by and_intros<;>kernel_rfl
@[go_sem] theorem JW9:Jo Tryz.prog 70=some 3∧QE Tryz.prog 70=some 24∧J3 Tryz.prog 70=some true∧J0 Tryz.prog 70=none∧QA Tryz.prog 70=none∧J7 Tryz.prog 70=false∧QO Tryz.prog 70=false∧QI Tryz.prog 70=none∧QD Tryz.prog 70=none∧QJ Tryz.prog 70=some 3∧QS Tryz.prog 70=some [(0,1),(1,1),(2,1)]∧J9 Tryz.prog 70=some (true,[D.raw (Value.int IntKind.i64 (0)),D.raw (Value.int IntKind.i64 (0)),D.raw (Value.int IntKind.i64 (0))])∧Program.concrete Tryz.prog 70=true:=by and_intros<;>kernel_rfl
@[go_sem] theorem JXA:Jo Tryz.prog 86=some 1∧QE Tryz.prog 86=some 8∧J3 Tryz.prog 86=some false∧J0 Tryz.prog 86=none∧QA Tryz.prog 86=none∧J7 Tryz.prog 86=false∧QO Tryz.prog 86=false∧QI Tryz.prog 86=none∧QD Tryz.prog 86=none∧QJ Tryz.prog 86=none∧QS Tryz.prog 86=none∧J9 Tryz.prog 86=some (false,[D.raw (Value.pointer none)])∧Program.concrete Tryz.prog 86=true:=by and_intros<;>kernel_rfl
@[go_sem] theorem JXB:Jo Tryz.prog 88=some 2∧QE Tryz.prog 88=some 32∧J3 Tryz.prog 88=some true∧J0 Tryz.prog 88=none∧QA Tryz.prog 88=none∧J7 Tryz.prog 88=false∧QO Tryz.prog 88=false∧QI Tryz.prog 88=none∧QD Tryz.prog 88=none∧QJ Tryz.prog 88=none∧QS Tryz.prog 88=some [(0,1),(1,1)]∧J9 Tryz.prog 88=some (true,[D.raw (Value.pointer none),D.raw (Value.slice none 0 0)])∧Program.concrete Tryz.prog 88=true:=by and_intros<;>kernel_rfl
@[go_sem] theorem JXD:Jo Tryz.prog 90=some 2∧QE Tryz.prog 90=some 32∧J3 Tryz.prog 90=some true∧J0 Tryz.prog 90=none∧QA Tryz.prog 90=none∧J7 Tryz.prog 90=false∧QO Tryz.prog 90=false∧QI Tryz.prog 90=none∧QD Tryz.prog 90=none∧QJ Tryz.prog 90=none∧QS Tryz.prog 90=some [(0,2)]∧J9 Tryz.prog 90=some (true,[D.raw (Value.pointer none),D.raw (Value.slice none 0 0)])∧Program.concrete Tryz.prog 90=true:=by and_intros<;>kernel_rfl
@[go_sem] theorem JXE:Jo Tryz.prog 92=some 1∧QE Tryz.prog 92=some 24∧J3 Tryz.prog 92=some false∧J0 Tryz.prog 92=some 9∧QA Tryz.prog 92=none∧J7 Tryz.prog 92=false∧QO Tryz.prog 92=false∧QI Tryz.prog 92=none∧QD Tryz.prog 92=none∧QJ Tryz.prog 92=none∧QS Tryz.prog 92=none∧J9 Tryz.prog 92=some (false,[D.raw (Value.slice none 0 0)])∧Program.concrete Tryz.prog 92=true:=by and_intros<;>kernel_rfl
@[go_sem] theorem JXF:Jo Tryz.prog 93=some 1∧QE Tryz.prog 93=some 24∧J3 Tryz.prog 93=some false∧J0 Tryz.prog 93=some 96∧QA Tryz.prog 93=none∧J7 Tryz.prog 93=false∧QO Tryz.prog 93=false∧QI Tryz.prog 93=none∧QD Tryz.prog 93=none∧QJ Tryz.prog 93=none∧QS Tryz.prog 93=none∧J9 Tryz.prog 93=some (false,[D.raw (Value.slice none 0 0)])∧Program.concrete Tryz.prog 93=true:=by and_intros<;>kernel_rfl
@[go_sem] theorem JXG:Jo Tryz.prog 96=some 2∧QE Tryz.prog 96=some 16∧J3 Tryz.prog 96=some true∧J0 Tryz.prog 96=none∧QA Tryz.prog 96=none∧J7 Tryz.prog 96=false∧QO Tryz.prog 96=false∧QI Tryz.prog 96=none∧QD Tryz.prog 96=none∧QJ Tryz.prog 96=some 2∧QS Tryz.prog 96=some [(0,1),(1,1)]∧J9 Tryz.prog 96=some (true,[D.raw (Value.int IntKind.i64 (0)),D.raw (Value.int IntKind.i64 (0))])∧Program.concrete Tryz.prog 96=true:=by and_intros<;>kernel_rfl
@[go_sem] theorem JWL:Jo Tryz.prog 117=some 1∧QE Tryz.prog 117=some 8∧J3 Tryz.prog 117=some false∧J0 Tryz.prog 117=none∧QA Tryz.prog 117=none∧J7 Tryz.prog 117=false∧QO Tryz.prog 117=false∧QI Tryz.prog 117=none∧QD Tryz.prog 117=none∧QJ Tryz.prog 117=none∧QS Tryz.prog 117=none∧J9 Tryz.prog 117=some (false,[D.raw Value.nilFunc])∧Program.concrete Tryz.prog 117=true:=by and_intros<;>kernel_rfl
@[go_sem] theorem JWM:Jo Tryz.prog 118=some 1∧QE Tryz.prog 118=some 8∧J3 Tryz.prog 118=some false∧J0 Tryz.prog 118=none∧QA Tryz.prog 118=none∧J7 Tryz.prog 118=false∧QO Tryz.prog 118=false∧QI Tryz.prog 118=none∧QD Tryz.prog 118=none∧QJ Tryz.prog 118=none∧QS Tryz.prog 118=none∧J9 Tryz.prog 118=some (false,[D.raw Value.nilFunc])∧Program.concrete Tryz.prog 118=true:=by and_intros<;>kernel_rfl
@[go_sem] theorem JWN:Jo Tryz.prog 120=some 1∧QE Tryz.prog 120=some 1∧J3 Tryz.prog 120=some false∧J0 Tryz.prog 120=none∧QA Tryz.prog 120=some IntKind.i8∧J7 Tryz.prog 120=false∧QO Tryz.prog 120=false∧QI Tryz.prog 120=none∧QD Tryz.prog 120=none∧QJ Tryz.prog 120=none∧QS Tryz.prog 120=none∧J9 Tryz.prog 120=some (false,[D.raw (Value.int IntKind.i8 (0))])∧Program.concrete Tryz.prog 120=true:=by and_intros<;>kernel_rfl
@[go_sem] theorem JWO:Jo Tryz.prog 122=some 3∧QE Tryz.prog 122=some 40∧J3 Tryz.prog 122=some true∧J0 Tryz.prog 122=none∧QA Tryz.prog 122=none∧J7 Tryz.prog 122=false∧QO Tryz.prog 122=false∧QI Tryz.prog 122=none∧QD Tryz.prog 122=none∧QJ Tryz.prog 122=none∧QS Tryz.prog 122=some [(0,1),(1,1),(2,1)]∧J9 Tryz.prog 122=some (true,[D.raw (Value.slice none 0 0),D.raw (Value.int IntKind.i64 (0)),D.raw (Value.int IntKind.i8 (0))])∧Program.concrete Tryz.prog 122=true:=by and_intros<;>kernel_rfl
@[go_sem] theorem JWP:Jo Tryz.prog 124=some 6∧QE Tryz.prog 124=some 64∧J3 Tryz.prog 124=some true∧J0 Tryz.prog 124=none∧QA Tryz.prog 124=none∧J7 Tryz.prog 124=false∧QO Tryz.prog 124=false∧QI Tryz.prog 124=none∧QD Tryz.prog 124=none∧QJ Tryz.prog 124=none∧QS Tryz.prog 124=some [(0,3),(3,1),(4,1),(5,1)]∧J9 Tryz.prog 124=some (true,[D.raw (Value.slice none 0 0),D.raw (Value.int IntKind.i64 (0)),D.raw (Value.int IntKind.i8 (0)),D.raw (Value.int IntKind.u8 (0)),D.raw (Value.int IntKind.i64 (0)),D.raw (Value.int IntKind.i64 (0))])∧Program.concrete Tryz.prog 124=true:=by and_intros<;>kernel_rfl
@[go_sem] theorem JWQ:Jo Tryz.prog 132=some 1∧QE Tryz.prog 132=some 8∧J3 Tryz.prog 132=some false∧J0 Tryz.prog 132=none∧QA Tryz.prog 132=none∧J7 Tryz.prog 132=false∧QO Tryz.prog 132=false∧QI Tryz.prog 132=none∧QD Tryz.prog 132=none∧QJ Tryz.prog 132=none∧QS Tryz.prog 132=none∧J9 Tryz.prog 132=some (false,[D.raw (Value.pointer none)])∧Program.concrete Tryz.prog 132=true:=by and_intros<;>kernel_rfl
@[go_sem] theorem JWR:Jo Tryz.prog 137=some 2∧QE Tryz.prog 137=some 32∧J3 Tryz.prog 137=some true∧J0 Tryz.prog 137=none∧QA Tryz.prog 137=none∧J7 Tryz.prog 137=false∧QO Tryz.prog 137=false∧QI Tryz.prog 137=none∧QD Tryz.prog 137=none∧QJ Tryz.prog 137=none∧QS Tryz.prog 137=some [(0,1),(1,1)]∧J9 Tryz.prog 137=some (true,[D.raw (Value.slice none 0 0),D.raw (Value.int IntKind.i64 (0))])∧Program.concrete Tryz.prog 137=true:=by and_intros<;>kernel_rfl
@[go_sem] theorem JWS:Jo Tryz.prog 146=some 3∧QE Tryz.prog 146=some 24∧J3 Tryz.prog 146=some true∧J0 Tryz.prog 146=none∧QA Tryz.prog 146=none∧J7 Tryz.prog 146=false∧QO Tryz.prog 146=false∧QI Tryz.prog 146=none∧QD Tryz.prog 146=none∧QJ Tryz.prog 146=some 3∧QS Tryz.prog 146=some [(0,1),(1,1),(2,1)]∧J9 Tryz.prog 146=some (true,[D.raw (Value.int IntKind.i64 (0)),D.raw (Value.int IntKind.i64 (0)),D.raw (Value.int IntKind.i64 (0))])∧Program.concrete Tryz.prog 146=true:=by and_intros<;>kernel_rfl
@[go_sem] theorem JWT:Jo Tryz.prog 148=some 3∧QE Tryz.prog 148=some 48∧J3 Tryz.prog 148=some true∧J0 Tryz.prog 148=none∧QA Tryz.prog 148=none∧J7 Tryz.prog 148=false∧QO Tryz.prog 148=false∧QI Tryz.prog 148=some (3,1)∧QD Tryz.prog 148=some (3,1,false)∧QJ Tryz.prog 148=none∧QS Tryz.prog 148=some [(0,1),(1,1),(2,1)]∧J9 Tryz.prog 148=some (true,[D.raw (Value.string (ByteArray.mk (List.toArray []))),D.raw (Value.string (ByteArray.mk (List.toArray []))),D.raw (Value.string (ByteArray.mk (List.toArray [])))])∧Program.concrete Tryz.prog 148=true:=by and_intros<;>kernel_rfl
@[go_sem] theorem JWU:Jo Tryz.prog 162=some 1∧QE Tryz.prog 162=some 8∧J3 Tryz.prog 162=some false∧J0 Tryz.prog 162=none∧QA Tryz.prog 162=none∧J7 Tryz.prog 162=false∧QO Tryz.prog 162=false∧QI Tryz.prog 162=none∧QD Tryz.prog 162=none∧QJ Tryz.prog 162=none∧QS Tryz.prog 162=none∧J9 Tryz.prog 162=some (false,[D.raw Value.nilFunc])∧Program.concrete Tryz.prog 162=true:=by and_intros<;>kernel_rfl
@[go_sem] theorem JWV:Jo Tryz.prog 163=some 1∧QE Tryz.prog 163=some 8∧J3 Tryz.prog 163=some false∧J0 Tryz.prog 163=none∧QA Tryz.prog 163=none∧J7 Tryz.prog 163=false∧QO Tryz.prog 163=false∧QI Tryz.prog 163=none∧QD Tryz.prog 163=none∧QJ Tryz.prog 163=none∧QS Tryz.prog 163=none∧J9 Tryz.prog 163=some (false,[D.raw Value.nilFunc])∧Program.concrete Tryz.prog 163=true:=by and_intros<;>kernel_rfl
@[go_sem] theorem JWW:Jo Tryz.prog 166=some 1∧QE Tryz.prog 166=some 16∧J3 Tryz.prog 166=some false∧J0 Tryz.prog 166=none∧QA Tryz.prog 166=none∧J7 Tryz.prog 166=false∧QO Tryz.prog 166=false∧QI Tryz.prog 166=none∧QD Tryz.prog 166=none∧QJ Tryz.prog 166=none∧QS Tryz.prog 166=none∧J9 Tryz.prog 166=some (false,[D.raw Value.nilIface])∧Program.concrete Tryz.prog 166=false:=by and_intros<;>kernel_rfl
@[go_sem] theorem JWX:Jo Tryz.prog 170=some 1∧QE Tryz.prog 170=some 8∧J3 Tryz.prog 170=some false∧J0 Tryz.prog 170=none∧QA Tryz.prog 170=none∧J7 Tryz.prog 170=false∧QO Tryz.prog 170=false∧QI Tryz.prog 170=none∧QD Tryz.prog 170=none∧QJ Tryz.prog 170=none∧QS Tryz.prog 170=none∧J9 Tryz.prog 170=some (false,[D.raw (Value.pointer none)])∧Program.concrete Tryz.prog 170=true:=by and_intros<;>kernel_rfl
@[go_sem] theorem JWY:Jo Tryz.prog 172=some 1∧QE Tryz.prog 172=some 8∧J3 Tryz.prog 172=some true∧J0 Tryz.prog 172=none∧QA Tryz.prog 172=none∧J7 Tryz.prog 172=false∧QO Tryz.prog 172=false∧QI Tryz.prog 172=none∧QD Tryz.prog 172=none∧QJ Tryz.prog 172=some 1∧QS Tryz.prog 172=some [(0,1)]∧J9 Tryz.prog 172=some (true,[D.raw (Value.int IntKind.i64 (0))])∧Program.concrete Tryz.prog 172=true:=by and_intros<;>kernel_rfl
@[go_sem] theorem JWZ:Jo Tryz.prog 195=some 1∧QE Tryz.prog 195=some 8∧J3 Tryz.prog 195=some false∧J0 Tryz.prog 195=none∧QA Tryz.prog 195=none∧J7 Tryz.prog 195=false∧QO Tryz.prog 195=false∧QI Tryz.prog 195=none∧QD Tryz.prog 195=none∧QJ Tryz.prog 195=none∧QS Tryz.prog 195=none∧J9 Tryz.prog 195=some (false,[D.raw Value.nilFunc])∧Program.concrete Tryz.prog 195=true:=by and_intros<;>kernel_rfl
@[go_sem] theorem JWa:Jo Tryz.prog 197=some 1∧QE Tryz.prog 197=some 8∧J3 Tryz.prog 197=some false∧J0 Tryz.prog 197=none∧QA Tryz.prog 197=none∧J7 Tryz.prog 197=false∧QO Tryz.prog 197=false∧QI Tryz.prog 197=none∧QD Tryz.prog 197=none∧QJ Tryz.prog 197=none∧QS Tryz.prog 197=none∧J9 Tryz.prog 197=some (false,[D.raw Value.nilFunc])∧Program.concrete Tryz.prog 197=true:=by and_intros<;>kernel_rfl
@[go_sem] theorem JWb:Jo Tryz.prog 198=some 1∧QE Tryz.prog 198=some 8∧J3 Tryz.prog 198=some false∧J0 Tryz.prog 198=none∧QA Tryz.prog 198=none∧J7 Tryz.prog 198=false∧QO Tryz.prog 198=false∧QI Tryz.prog 198=none∧QD Tryz.prog 198=none∧QJ Tryz.prog 198=none∧QS Tryz.prog 198=none∧J9 Tryz.prog 198=some (false,[D.raw Value.nilFunc])∧Program.concrete Tryz.prog 198=true:=by and_intros<;>kernel_rfl
@[go_sem] theorem JWc:Jo Tryz.prog 199=some 1∧QE Tryz.prog 199=some 8∧J3 Tryz.prog 199=some false∧J0 Tryz.prog 199=none∧QA Tryz.prog 199=none∧J7 Tryz.prog 199=false∧QO Tryz.prog 199=false∧QI Tryz.prog 199=none∧QD Tryz.prog 199=none∧QJ Tryz.prog 199=none∧QS Tryz.prog 199=none∧J9 Tryz.prog 199=some (false,[D.raw (Value.pointer none)])∧Program.concrete Tryz.prog 199=true:=by and_intros<;>kernel_rfl
@[go_sem] theorem JWe:Jo Tryz.prog 200=some 1∧QE Tryz.prog 200=some 8∧J3 Tryz.prog 200=some false∧J0 Tryz.prog 200=none∧QA Tryz.prog 200=some IntKind.u64∧J7 Tryz.prog 200=false∧QO Tryz.prog 200=false∧QI Tryz.prog 200=none∧QD Tryz.prog 200=none∧QJ Tryz.prog 200=none∧QS Tryz.prog 200=none∧J9 Tryz.prog 200=some (false,[D.raw (Value.int IntKind.u64 (0))])∧Program.concrete Tryz.prog 200=true:=by and_intros<;>kernel_rfl
@[go_sem] theorem JWf:Jo Tryz.prog 201=some 1∧QE Tryz.prog 201=some 8∧J3 Tryz.prog 201=some false∧J0 Tryz.prog 201=none∧QA Tryz.prog 201=none∧J7 Tryz.prog 201=false∧QO Tryz.prog 201=false∧QI Tryz.prog 201=none∧QD Tryz.prog 201=none∧QJ Tryz.prog 201=none∧QS Tryz.prog 201=none∧J9 Tryz.prog 201=some (false,[D.raw (Value.pointer none)])∧Program.concrete Tryz.prog 201=true:=by and_intros<;>kernel_rfl
@[go_sem] theorem JWg:Jo Tryz.prog 206=some 1∧QE Tryz.prog 206=some 8∧J3 Tryz.prog 206=some false∧J0 Tryz.prog 206=none∧QA Tryz.prog 206=none∧J7 Tryz.prog 206=false∧QO Tryz.prog 206=false∧QI Tryz.prog 206=none∧QD Tryz.prog 206=none∧QJ Tryz.prog 206=none∧QS Tryz.prog 206=none∧J9 Tryz.prog 206=some (false,[D.raw Value.nilFunc])∧Program.concrete Tryz.prog 206=true:=by and_intros<;>kernel_rfl
@[go_sem] theorem JWh:Jo Tryz.prog 207=some 1∧QE Tryz.prog 207=some 8∧J3 Tryz.prog 207=some false∧J0 Tryz.prog 207=none∧QA Tryz.prog 207=none∧J7 Tryz.prog 207=false∧QO Tryz.prog 207=false∧QI Tryz.prog 207=none∧QD Tryz.prog 207=none∧QJ Tryz.prog 207=none∧QS Tryz.prog 207=none∧J9 Tryz.prog 207=some (false,[D.raw Value.nilFunc])∧Program.concrete Tryz.prog 207=true:=by and_intros<;>kernel_rfl
@[go_sem] theorem JWi:Jo Tryz.prog 209=some 3∧QE Tryz.prog 209=some 24∧J3 Tryz.prog 209=some true∧J0 Tryz.prog 209=none∧QA Tryz.prog 209=none∧J7 Tryz.prog 209=false∧QO Tryz.prog 209=false∧QI Tryz.prog 209=some (3,1)∧QD Tryz.prog 209=some (3,1,false)∧QJ Tryz.prog 209=none∧QS Tryz.prog 209=some [(0,1),(1,1),(2,1)]∧J9 Tryz.prog 209=some (true,[D.raw (Value.int IntKind.i64 (0)),D.raw (Value.int IntKind.i64 (0)),D.raw (Value.int IntKind.i64 (0))])∧Program.concrete Tryz.prog 209=true:=by and_intros<;>kernel_rfl
@[go_sem] theorem JWk:Jo Tryz.prog 230=some 1∧QE Tryz.prog 230=some 8∧J3 Tryz.prog 230=some false∧J0 Tryz.prog 230=none∧QA Tryz.prog 230=none∧J7 Tryz.prog 230=false∧QO Tryz.prog 230=false∧QI Tryz.prog 230=none∧QD Tryz.prog 230=none∧QJ Tryz.prog 230=none∧QS Tryz.prog 230=none∧J9 Tryz.prog 230=some (false,[D.raw Value.nilFunc])∧Program.concrete Tryz.prog 230=true:=by and_intros<;>kernel_rfl
@[go_sem] theorem JWl:Jo Tryz.prog 236=some 256∧QE Tryz.prog 236=some 256∧J3 Tryz.prog 236=some true∧J0 Tryz.prog 236=none∧QA Tryz.prog 236=none∧J7 Tryz.prog 236=false∧QO Tryz.prog 236=false∧QI Tryz.prog 236=some (256,1)∧QD Tryz.prog 236=some (256,1,false)∧QJ Tryz.prog 236=none∧Program.concrete Tryz.prog 236=true:=by and_intros<;>kernel_rfl
@[go_sem] theorem JWm:Jo Tryz.prog 240=some 1∧QE Tryz.prog 240=some 8∧J3 Tryz.prog 240=some false∧J0 Tryz.prog 240=none∧QA Tryz.prog 240=none∧J7 Tryz.prog 240=false∧QO Tryz.prog 240=false∧QI Tryz.prog 240=none∧QD Tryz.prog 240=none∧QJ Tryz.prog 240=none∧QS Tryz.prog 240=none∧J9 Tryz.prog 240=some (false,[D.raw (Value.pointer none)])∧Program.concrete Tryz.prog 240=true:=by and_intros<;>kernel_rfl
@[go_sem] theorem JWn:Jo Tryz.prog 245=some 1∧QE Tryz.prog 245=some 8∧J3 Tryz.prog 245=some false∧J0 Tryz.prog 245=none∧QA Tryz.prog 245=some IntKind.u64∧J7 Tryz.prog 245=false∧QO Tryz.prog 245=false∧QI Tryz.prog 245=none∧QD Tryz.prog 245=none∧QJ Tryz.prog 245=none∧QS Tryz.prog 245=none∧J9 Tryz.prog 245=some (false,[D.raw (Value.int IntKind.u64 (0))])∧Program.concrete Tryz.prog 245=true:=by and_intros<;>kernel_rfl
@[go_sem] theorem JWo:Jo Tryz.prog 250=some 1∧QE Tryz.prog 250=some 8∧J3 Tryz.prog 250=some false∧J0 Tryz.prog 250=none∧QA Tryz.prog 250=none∧J7 Tryz.prog 250=false∧QO Tryz.prog 250=false∧QI Tryz.prog 250=none∧QD Tryz.prog 250=none∧QJ Tryz.prog 250=none∧QS Tryz.prog 250=none∧J9 Tryz.prog 250=some (false,[D.raw (Value.pointer none)])∧Program.concrete Tryz.prog 250=true:=by and_intros<;>kernel_rfl
@[go_sem] theorem JWp:Jo Tryz.prog 258=some 1∧QE Tryz.prog 258=some 4∧J3 Tryz.prog 258=some false∧J0 Tryz.prog 258=none∧QA Tryz.prog 258=some IntKind.u32∧J7 Tryz.prog 258=false∧QO Tryz.prog 258=false∧QI Tryz.prog 258=none∧QD Tryz.prog 258=none∧QJ Tryz.prog 258=none∧QS Tryz.prog 258=none∧J9 Tryz.prog 258=some (false,[D.raw (Value.int IntKind.u32 (0))])∧Program.concrete Tryz.prog 258=true:=by and_intros<;>kernel_rfl
@[go_sem] theorem JWq:Jo Tryz.prog 272=some 20∧QE Tryz.prog 272=some 160∧J3 Tryz.prog 272=some true∧J0 Tryz.prog 272=none∧QA Tryz.prog 272=none∧J7 Tryz.prog 272=false∧QO Tryz.prog 272=false∧QI Tryz.prog 272=some (20,1)∧QD Tryz.prog 272=some (20,1,false)∧QJ Tryz.prog 272=none∧QS Tryz.prog 272=some [(0,1),(1,1),(2,1),(3,1),(4,1),(5,1),(6,1),(7,1),(8,1),(9,1),(10,1),(11,1),(12,1),(13,1),(14,1),(15,1),(16,1),(17,1),(18,1),(19,1)]∧Program.concrete Tryz.prog 272=true:=by and_intros<;>kernel_rfl
@[go_sem] theorem JWr:Jo Tryz.prog 276=some 256∧QE Tryz.prog 276=some 256∧J3 Tryz.prog 276=some true∧J0 Tryz.prog 276=none∧QA Tryz.prog 276=none∧J7 Tryz.prog 276=false∧QO Tryz.prog 276=false∧QI Tryz.prog 276=some (256,1)∧QD Tryz.prog 276=some (256,1,false)∧QJ Tryz.prog 276=none∧Program.concrete Tryz.prog 276=true:=by and_intros<;>kernel_rfl
@[go_sem] theorem JWs:Jo Tryz.prog 278=some 2∧QE Tryz.prog 278=some 2∧J3 Tryz.prog 278=some true∧J0 Tryz.prog 278=none∧QA Tryz.prog 278=none∧J7 Tryz.prog 278=false∧QO Tryz.prog 278=false∧QI Tryz.prog 278=none∧QD Tryz.prog 278=none∧QJ Tryz.prog 278=some 2∧QS Tryz.prog 278=some [(0,1),(1,1)]∧J9 Tryz.prog 278=some (true,[D.raw (Value.int IntKind.u8 (0)),D.raw (Value.int IntKind.u8 (0))])∧Program.concrete Tryz.prog 278=true:=by and_intros<;>kernel_rfl
@[go_sem] theorem JWt:Jo Tryz.prog 279=some 32∧QE Tryz.prog 279=some 32∧J3 Tryz.prog 279=some true∧J0 Tryz.prog 279=none∧QA Tryz.prog 279=none∧J7 Tryz.prog 279=false∧QO Tryz.prog 279=false∧QI Tryz.prog 279=some (16,2)∧QD Tryz.prog 279=some (16,2,true)∧QJ Tryz.prog 279=none∧QS Tryz.prog 279=some [(0,2),(2,2),(4,2),(6,2),(8,2),(10,2),(12,2),(14,2),(16,2),(18,2),(20,2),(22,2),(24,2),(26,2),(28,2),(30,2)]∧Program.concrete Tryz.prog 279=true:=by and_intros<;>kernel_rfl
@[go_sem] theorem JWv:Jo Tryz.prog 281=some 32∧QE Tryz.prog 281=some 32∧J3 Tryz.prog 281=some true∧J0 Tryz.prog 281=none∧QA Tryz.prog 281=none∧J7 Tryz.prog 281=false∧QO Tryz.prog 281=false∧QI Tryz.prog 281=some (32,1)∧QD Tryz.prog 281=some (32,1,false)∧QJ Tryz.prog 281=none∧QS Tryz.prog 281=some [(0,1),(1,1),(2,1),(3,1),(4,1),(5,1),(6,1),(7,1),(8,1),(9,1),(10,1),(11,1),(12,1),(13,1),(14,1),(15,1),(16,1),(17,1),(18,1),(19,1),(20,1),(21,1),(22,1),(23,1),(24,1),(25,1),(26,1),(27,1),(28,1),(29,1),(30,1),(31,1)]∧Program.concrete Tryz.prog 281=true:=by and_intros<;>kernel_rfl
@[go_sem] theorem JWw:Jo Tryz.prog 282=some 64∧QE Tryz.prog 282=some 64∧J3 Tryz.prog 282=some true∧J0 Tryz.prog 282=none∧QA Tryz.prog 282=none∧J7 Tryz.prog 282=false∧QO Tryz.prog 282=false∧QI Tryz.prog 282=some (64,1)∧QD Tryz.prog 282=some (64,1,false)∧QJ Tryz.prog 282=none∧Program.concrete Tryz.prog 282=true:=by and_intros<;>kernel_rfl
@[go_sem] theorem JXN:JHx Tryz.prog 86=true:=by kernel_rfl
@[go_sem] theorem JXK:Qc Tryz.prog 25 0=some (0,1)∧Qc Tryz.prog 25 1=some (1,1)∧Qc Tryz.prog 31 0=some (0,1)∧Qc Tryz.prog 31 1=some (1,1)∧Qc Tryz.prog 34 0=some (0,1)∧Qc Tryz.prog 34 1=some (1,1)∧Qc Tryz.prog 34 2=some (2,1)∧Qc Tryz.prog 48 0=some (0,1)∧Qc Tryz.prog 48 1=some (1,1)∧Qc Tryz.prog 68 0=some (0,1)∧Qc Tryz.prog 68 1=some (1,1)∧Qc Tryz.prog 70 0=some (0,1)∧Qc Tryz.prog 70 1=some (1,1)∧Qc Tryz.prog 70 2=some (2,1)∧Qc Tryz.prog 88 0=some (0,1)∧Qc Tryz.prog 88 1=some (1,1)∧Qc Tryz.prog 90 0=some (0,2)∧Qc Tryz.prog 96 0=some (0,1)∧Qc Tryz.prog 96 1=some (1,1)∧Qc Tryz.prog 105 2=some (2,1)∧Qc Tryz.prog 105 3=some (3,1)∧Qc Tryz.prog 107 0=some (0,1)∧Qc Tryz.prog 107 1=some (1,1)∧Qc Tryz.prog 112 0=some (0,3)∧Qc Tryz.prog 112 1=some (3,1)∧Qc Tryz.prog 122 0=some (0,1)∧Qc Tryz.prog 122 1=some (1,1)∧Qc Tryz.prog 122 2=some (2,1)∧Qc Tryz.prog 124 0=some (0,3)∧Qc Tryz.prog 124 1=some (3,1)∧Qc Tryz.prog 124 2=some (4,1)∧Qc Tryz.prog 124 3=some (5,1)∧Qc Tryz.prog 137 0=some (0,1)∧Qc Tryz.prog 137 1=some (1,1)∧Qc Tryz.prog 146 0=some (0,1)∧Qc Tryz.prog 146 1=some (1,1)∧Qc Tryz.prog 146 2=some (2,1)∧Qc Tryz.prog 172 0=some (0,1)∧Qc Tryz.prog 185 0=some (0,1)∧Qc Tryz.prog 185 1=some (1,1)∧Qc Tryz.prog 187 0=some (0,1)∧Qc Tryz.prog 189 0=some (0,1)∧Qc Tryz.prog 189 1=some (1,1)∧Qc Tryz.prog 278 0=some (0,1)∧Qc Tryz.prog 278 1=some (1,1):=by and_intros<;>kernel_rfl
@[go_sem] theorem JXH:JN Tryz.prog 1=false∧JN Tryz.prog 13=true∧JN Tryz.prog 14=true∧JN Tryz.prog 15=true∧JN Tryz.prog 16=true∧JN Tryz.prog 17=true∧JN Tryz.prog 18=true∧JN Tryz.prog 19=true∧JN Tryz.prog 20=true∧JN Tryz.prog 21=true∧JN Tryz.prog 22=true∧JN Tryz.prog 23=true∧JN Tryz.prog 24=true∧JN Tryz.prog 25=true∧JN Tryz.prog 26=true∧JN Tryz.prog 27=true∧JN Tryz.prog 28=true∧JN Tryz.prog 29=true∧JN Tryz.prog 30=true∧JN Tryz.prog 31=true∧JN Tryz.prog 32=true∧JN Tryz.prog 33=true∧JN Tryz.prog 34=true∧JN Tryz.prog 35=true∧JN Tryz.prog 36=true∧JN Tryz.prog 37=true∧JN Tryz.prog 38=true∧JN Tryz.prog 39=true∧JN Tryz.prog 40=true∧JN Tryz.prog 41=true∧JN Tryz.prog 42=true∧JN Tryz.prog 43=true∧JN Tryz.prog 44=true∧JN Tryz.prog 45=true∧JN Tryz.prog 46=true∧JN Tryz.prog 47=true∧JN Tryz.prog 48=true∧JN Tryz.prog 49=true∧JN Tryz.prog 50=true∧JN Tryz.prog 51=true∧JN Tryz.prog 52=true∧JN Tryz.prog 53=true∧JN Tryz.prog 54=true∧JN Tryz.prog 55=true∧JN Tryz.prog 56=true∧JN Tryz.prog 57=true∧JN Tryz.prog 58=true∧JN Tryz.prog 59=true∧JN Tryz.prog 60=true∧JN Tryz.prog 61=true∧JN Tryz.prog 62=true∧JN Tryz.prog 63=true∧JN Tryz.prog 64=true∧JN Tryz.prog 65=true∧JN Tryz.prog 66=true∧JN Tryz.prog 67=true∧JN Tryz.prog 68=true∧JN Tryz.prog 69=true∧JN Tryz.prog 70=true∧JN Tryz.prog 71=true∧JN Tryz.prog 72=true∧JN Tryz.prog 73=true∧JN Tryz.prog 74=true∧JN Tryz.prog 75=true∧JN Tryz.prog 76=true∧JN Tryz.prog 77=true∧JN Tryz.prog 78=true∧JN Tryz.prog 79=true∧JN Tryz.prog 80=true∧JN Tryz.prog 81=true∧JN Tryz.prog 82=true∧JN Tryz.prog 83=true∧JN Tryz.prog 84=true∧JN Tryz.prog 85=true∧JN Tryz.prog 86=true∧JN Tryz.prog 87=true∧JN Tryz.prog 88=true∧JN Tryz.prog 89=true∧JN Tryz.prog 90=true∧JN Tryz.prog 91=true∧JN Tryz.prog 92=true∧JN Tryz.prog 93=true∧JN Tryz.prog 94=true∧JN Tryz.prog 95=true∧JN Tryz.prog 96=true∧JN Tryz.prog 97=true∧JN Tryz.prog 98=true∧JN Tryz.prog 99=true∧JN Tryz.prog 100=true∧JN Tryz.prog 101=true∧JN Tryz.prog 102=true∧JN Tryz.prog 103=true∧JN Tryz.prog 104=true∧JN Tryz.prog 105=true∧JN Tryz.prog 106=true∧JN Tryz.prog 107=true∧JN Tryz.prog 108=true∧JN Tryz.prog 109=true∧JN Tryz.prog 110=true∧JN Tryz.prog 111=true∧JN Tryz.prog 112=true∧JN Tryz.prog 113=true∧JN Tryz.prog 114=true∧JN Tryz.prog 115=true∧JN Tryz.prog 116=true∧JN Tryz.prog 117=true∧JN Tryz.prog 118=true∧JN Tryz.prog 119=true∧JN Tryz.prog 120=true∧JN Tryz.prog 121=true∧JN Tryz.prog 122=true∧JN Tryz.prog 123=true∧JN Tryz.prog 124=true∧JN Tryz.prog 125=true∧JN Tryz.prog 126=true∧JN Tryz.prog 127=true∧JN Tryz.prog 128=true∧JN Tryz.prog 129=true∧JN Tryz.prog 130=true∧JN Tryz.prog 131=true∧JN Tryz.prog 132=true∧JN Tryz.prog 133=true∧JN Tryz.prog 134=true∧JN Tryz.prog 135=true∧JN Tryz.prog 136=true∧JN Tryz.prog 137=true∧JN Tryz.prog 138=true∧JN Tryz.prog 139=true∧JN Tryz.prog 140=true∧JN Tryz.prog 141=true∧JN Tryz.prog 142=true∧JN Tryz.prog 143=true∧JN Tryz.prog 144=true∧JN Tryz.prog 146=true∧JN Tryz.prog 147=true∧JN Tryz.prog 148=true∧JN Tryz.prog 149=true∧JN Tryz.prog 150=true∧JN Tryz.prog 151=true∧JN Tryz.prog 152=true∧JN Tryz.prog 153=true∧JN Tryz.prog 154=true∧JN Tryz.prog 155=true∧JN Tryz.prog 156=true∧JN Tryz.prog 157=true∧JN Tryz.prog 158=true∧JN Tryz.prog 159=true∧JN Tryz.prog 160=true∧JN Tryz.prog 161=true∧JN Tryz.prog 162=true∧JN Tryz.prog 163=true∧JN Tryz.prog 164=true∧JN Tryz.prog 165=true∧JN Tryz.prog 166=true∧JN Tryz.prog 167=true∧JN Tryz.prog 168=true∧JN Tryz.prog 169=true∧JN Tryz.prog 170=true∧JN Tryz.prog 171=true∧JN Tryz.prog 172=true∧JN Tryz.prog 173=true∧JN Tryz.prog 174=true∧JN Tryz.prog 179=false∧JN Tryz.prog 180=true∧JN Tryz.prog 181=true∧JN Tryz.prog 182=true∧JN Tryz.prog 183=true∧JN Tryz.prog 184=true∧JN Tryz.prog 185=true∧JN Tryz.prog 186=true∧JN Tryz.prog 187=true∧JN Tryz.prog 188=true∧JN Tryz.prog 189=true∧JN Tryz.prog 190=true∧JN Tryz.prog 191=true∧JN Tryz.prog 192=true∧JN Tryz.prog 193=true∧JN Tryz.prog 194=true∧JN Tryz.prog 195=true∧JN Tryz.prog 196=true∧JN Tryz.prog 197=false∧JN Tryz.prog 198=true∧JN Tryz.prog 199=true∧JN Tryz.prog 200=true∧JN Tryz.prog 205=true∧JN Tryz.prog 206=false∧JN Tryz.prog 207=true∧JN Tryz.prog 208=true∧JN Tryz.prog 209=true∧JN Tryz.prog 210=true∧JN Tryz.prog 211=true∧JN Tryz.prog 212=true∧JN Tryz.prog 213=true∧JN Tryz.prog 214=true∧JN Tryz.prog 215=false∧JN Tryz.prog 216=true∧JN Tryz.prog 218=true∧JN Tryz.prog 219=true∧JN Tryz.prog 220=true∧JN Tryz.prog 241=true∧JN Tryz.prog 246=true:=by and_intros<;>kernel_rfl
@[go_sem] theorem JXM:JDf Tryz.prog 9=none∧JDf Tryz.prog 221=some (3,29)∧JDf Tryz.prog 222=some (3,34):=by and_intros<;>kernel_rfl
@[go_sem] theorem JXL:JVO Tryz.prog 3=some 0:=by kernel_rfl
@[go_sem] theorem JXI:JHP Tryz.prog 172=false∧JHP Tryz.prog 185=false∧JHP Tryz.prog 187=false∧JHP Tryz.prog 189=false:=by and_intros<;>kernel_rfl
@[go_sem] theorem JXJ:JBP Tryz.prog 9 "meterworks/card.made" = none∧JBP Tryz.prog 172 "meterworks/card.made" = none∧JBP Tryz.prog 185 "meterworks/card.made" = some 239∧JBP Tryz.prog 187 "meterworks/card.made" = some 240∧JBP Tryz.prog 189 "meterworks/card.made" = some 242∧JBP Tryz.prog 284 "meterworks/card.made" = none:=by and_intros<;>kernel_rfl
end Go.Mw
namespace Go.Proofs
open Go.Shelf
def Tryz.lays100_ren:Go.Shelf.Ren:=⟨fun|100=>106|207=>147|n=>n,fun|9=>9|4=>4|3=>3|n=>n,fun|n=>n⟩
theorem Tryz.lays100:Go.Proofs.Lays.n100 Tryz.prog Tryz.lays100_ren where
 mixed:=by kernel_rfl
 f100:=Tryz.func106.trans (congrArg some JH)
 f207:=Tryz.func147.trans (congrArg some JH)
 t3:=Tryz.underlying3
 a3:=Tryz.isAgg3
 z3:=Tryz.sizeOf3
 v3:=Tryz.zeroValue3
 t4:=Tryz.underlying4
 a4:=Tryz.isAgg4
 z4:=Tryz.sizeOf4
 v4:=Tryz.zeroValue4
 t9:=Tryz.underlying9
 a9:=Tryz.isAgg9
 z9:=Tryz.sizeOf9
 v9:=Tryz.zeroValue9
def Tryz.lays102_ren:Go.Shelf.Ren:=⟨fun|102=>108|209=>149|207=>147|n=>n,fun|9=>9|4=>4|3=>3|n=>n,fun|n=>n⟩
theorem Tryz.lays102:Go.Proofs.Lays.n102 Tryz.prog Tryz.lays102_ren where
 mixed:=by kernel_rfl
 f102:=Tryz.func108.trans (congrArg some JH)
 f207:=Tryz.func147.trans (congrArg some JH)
 f209:=Tryz.func149.trans (congrArg some JH)
 t3:=Tryz.underlying3
 a3:=Tryz.isAgg3
 z3:=Tryz.sizeOf3
 v3:=Tryz.zeroValue3
 t4:=Tryz.underlying4
 a4:=Tryz.isAgg4
 z4:=Tryz.sizeOf4
 v4:=Tryz.zeroValue4
 t9:=Tryz.underlying9
 a9:=Tryz.isAgg9
 z9:=Tryz.sizeOf9
 v9:=Tryz.zeroValue9
def Tryz.lays105_ren:Go.Shelf.Ren:=⟨fun|105=>131|212=>164|99=>165|165=>133|166=>103|170=>166|169=>50|263=>194|264=>195|206=>196|240=>146|241=>167|276=>179|277=>197|n=>n,fun|9=>9|3=>3|4=>4|20=>20|0=>0|46=>200|109=>232|5=>5|72=>88|76=>167|51=>258|146=>262|53=>245|148=>264|70=>86|37=>53|75=>166|127=>170|164=>250|80=>97|n=>n,fun|n=>n⟩
theorem Tryz.lays105:Go.Proofs.Lays.n105 Tryz.prog Tryz.lays105_ren where
 mixed:=by kernel_rfl
 f99:=Tryz.func165.trans (congrArg some JH)
 f105:=Tryz.func131.trans (congrArg some JH)
 f165:=Tryz.func133.trans (congrArg some JH)
 f166:=Tryz.func103.trans (congrArg some JH)
 f169:=Tryz.func50.trans (congrArg some JH)
 f170:=Tryz.func166.trans (congrArg some JH)
 f206:=Tryz.func196.trans (congrArg some JH)
 f212:=Tryz.func164.trans (congrArg some JH)
 f240:=Tryz.func146.trans (congrArg some JH)
 f241:=Tryz.func167.trans (congrArg some JH)
 f263:=Tryz.func194.trans (congrArg some JH)
 f264:=Tryz.func195.trans (congrArg some JH)
 f276:=Tryz.func179.trans (congrArg some JH)
 f277:=Tryz.func197.trans (congrArg some JH)
 t0:=Tryz.underlying0
 a0:=Tryz.isAgg0
 z0:=Tryz.sizeOf0
 v0:=Tryz.zeroValue0
 t3:=Tryz.underlying3
 a3:=Tryz.isAgg3
 z3:=Tryz.sizeOf3
 v3:=Tryz.zeroValue3
 t4:=Tryz.underlying4
 a4:=Tryz.isAgg4
 z4:=Tryz.sizeOf4
 v4:=Tryz.zeroValue4
 t5:=Tryz.underlying5
 a5:=Tryz.isAgg5
 z5:=Tryz.sizeOf5
 v5:=Tryz.zeroValue5
 t9:=Tryz.underlying9
 a9:=Tryz.isAgg9
 z9:=Tryz.sizeOf9
 v9:=Tryz.zeroValue9
 t20:=Tryz.underlying20
 a20:=Tryz.isAgg20
 z20:=Tryz.sizeOf20
 v20:=Tryz.zeroValue20
 t37:=Tryz.underlying53
 a37:=Tryz.isAgg53
 z37:=Tryz.sizeOf53
 v37:=Tryz.zeroValue53
 t46:=Tryz.underlying200
 a46:=Tryz.isAgg200
 z46:=Tryz.sizeOf200
 v46:=Tryz.zeroValue200
 t51:=Tryz.underlying258
 a51:=Tryz.isAgg258
 z51:=Tryz.sizeOf258
 v51:=Tryz.zeroValue258
 t53:=Tryz.underlying245
 a53:=Tryz.isAgg245
 z53:=Tryz.sizeOf245
 v53:=Tryz.zeroValue245
 t70:=Tryz.underlying86
 a70:=Tryz.isAgg86
 z70:=Tryz.sizeOf86
 v70:=Tryz.zeroValue86
 t72:=Tryz.underlying88
 a72:=Tryz.isAgg88
 z72:=Tryz.sizeOf88
 v72:=Tryz.zeroValue88
 t75:=Tryz.underlying166
 a75:=Tryz.isAgg166
 z75:=Tryz.sizeOf166
 v75:=Tryz.zeroValue166
 t76:=Tryz.underlying167
 a76:=Tryz.isAgg167
 z76:=Tryz.sizeOf167
 v76:=Tryz.zeroValue167
 t109:=Tryz.underlying232
 a109:=Tryz.isAgg232
 z109:=Tryz.sizeOf232
 v109:=Tryz.zeroValue232
 t127:=Tryz.underlying170
 a127:=Tryz.isAgg170
 z127:=Tryz.sizeOf170
 v127:=Tryz.zeroValue170
 t146:=Tryz.underlying262
 a146:=Tryz.isAgg262
 z146:=Tryz.sizeOf262
 v146:=Tryz.zeroValue262
 t148:=Tryz.underlying264
 a148:=Tryz.isAgg264
 z148:=Tryz.sizeOf264
 v148:=Tryz.zeroValue264
 t164:=Tryz.underlying250
 a164:=Tryz.isAgg250
 z164:=Tryz.sizeOf250
 v164:=Tryz.zeroValue250
def Tryz.lays125_ren:Go.Shelf.Ren:=⟨fun|125=>156|128=>187|129=>188|n=>n,fun|46=>200|3=>3|51=>258|53=>245|4=>4|5=>5|9=>9|n=>n,fun|n=>n⟩
theorem Tryz.lays125:Go.Proofs.Lays.n125 Tryz.prog Tryz.lays125_ren where
 mixed:=by kernel_rfl
 f125:=Tryz.func156.trans (congrArg some JH)
 f128:=Tryz.func187.trans (congrArg some JH)
 f129:=Tryz.func188.trans (congrArg some JH)
 t3:=Tryz.underlying3
 a3:=Tryz.isAgg3
 z3:=Tryz.sizeOf3
 v3:=Tryz.zeroValue3
 t4:=Tryz.underlying4
 a4:=Tryz.isAgg4
 z4:=Tryz.sizeOf4
 v4:=Tryz.zeroValue4
 t5:=Tryz.underlying5
 a5:=Tryz.isAgg5
 z5:=Tryz.sizeOf5
 v5:=Tryz.zeroValue5
 t9:=Tryz.underlying9
 a9:=Tryz.isAgg9
 z9:=Tryz.sizeOf9
 v9:=Tryz.zeroValue9
 t46:=Tryz.underlying200
 a46:=Tryz.isAgg200
 z46:=Tryz.sizeOf200
 v46:=Tryz.zeroValue200
 t51:=Tryz.underlying258
 a51:=Tryz.isAgg258
 z51:=Tryz.sizeOf258
 v51:=Tryz.zeroValue258
 t53:=Tryz.underlying245
 a53:=Tryz.isAgg245
 z53:=Tryz.sizeOf245
 v53:=Tryz.zeroValue245
def Tryz.lays145_ren:Go.Shelf.Ren:=⟨fun|145=>150|220=>183|219=>207|217=>214|225=>215|224=>216|267=>217|266=>221|314=>222|n=>n,fun|9=>9|4=>4|59=>218|3=>3|5=>5|46=>200|146=>262|51=>258|n=>n,fun|1=>2|n=>n⟩
theorem Tryz.lays145:Go.Proofs.LaysM.n145 Tryz.prog Tryz.lays145_ren where
 mixed:=by kernel_rfl
 f145:=Tryz.func150.trans (congrArg some JH)
 f217:=Tryz.func214.trans (congrArg some JH)
 f219:=Tryz.func207.trans (congrArg some JH)
 f220:=Tryz.func183.trans (congrArg some JH)
 f224:=Tryz.func216.trans (congrArg some JH)
 f225:=Tryz.func215.trans (congrArg some JH)
 f266:=Tryz.func221.trans (congrArg some JH)
 f267:=Tryz.func217.trans (congrArg some JH)
 f314:=Tryz.func222.trans (congrArg some JH)
 t3:=Tryz.underlying3
 a3:=Tryz.isAgg3
 z3:=Tryz.sizeOf3
 v3:=Tryz.zeroValue3
 t4:=Tryz.underlying4
 a4:=Tryz.isAgg4
 z4:=Tryz.sizeOf4
 v4:=Tryz.zeroValue4
 t5:=Tryz.underlying5
 a5:=Tryz.isAgg5
 z5:=Tryz.sizeOf5
 v5:=Tryz.zeroValue5
 t9:=Tryz.underlying9
 a9:=Tryz.isAgg9
 z9:=Tryz.sizeOf9
 v9:=Tryz.zeroValue9
 t46:=Tryz.underlying200
 a46:=Tryz.isAgg200
 z46:=Tryz.sizeOf200
 v46:=Tryz.zeroValue200
 t51:=Tryz.underlying258
 a51:=Tryz.isAgg258
 z51:=Tryz.sizeOf258
 v51:=Tryz.zeroValue258
 t59:=Tryz.underlying218
 a59:=Tryz.isAgg218
 z59:=Tryz.sizeOf218
 v59:=Tryz.zeroValue218
 t146:=Tryz.underlying262
 a146:=Tryz.isAgg262
 z146:=Tryz.sizeOf262
 v146:=Tryz.zeroValue262
 g1:=by kernel_rfl
 i3:=by kernel_rfl
 i4:=by kernel_rfl
 i5:=by kernel_rfl
 i9:=by kernel_rfl
 i46:=by kernel_rfl
 i51:=by kernel_rfl
 i59:=by kernel_rfl
 i146:=by kernel_rfl
 m1:=by kernel_rfl
 s1_3:=fun w h=>Go.Proofs.cell_of_shapedOpen_int (zero:=#[.int .i64 0]) (t:=3) h (of_decide_eq_true JH) JH rfl JH JH Tryz.underlying3
def Tryz.lays146_ren:Go.Shelf.Ren:=⟨fun|146=>107|221=>148|268=>180|138=>181|143=>182|195=>205|197=>199|218=>206|219=>207|260=>210|217=>214|225=>215|224=>216|267=>217|266=>221|314=>222|n=>n,fun|9=>9|31=>92|3=>3|4=>4|0=>0|105=>268|21=>21|5=>5|46=>200|119=>276|139=>279|138=>278|146=>262|51=>258|n=>n,fun|1=>2|3=>3|4=>4|n=>n⟩
theorem Tryz.lays146:Go.Proofs.LaysM.n146 Tryz.prog Tryz.lays146_ren where
 mixed:=by kernel_rfl
 f138:=Tryz.func181.trans (congrArg some JH)
 f143:=Tryz.func182.trans (congrArg some JH)
 f146:=Tryz.func107.trans (congrArg some JH)
 f195:=Tryz.func205.trans (congrArg some JH)
 f197:=Tryz.func199.trans (congrArg some JH)
 f217:=Tryz.func214.trans (congrArg some JH)
 f218:=Tryz.func206.trans (congrArg some JH)
 f219:=Tryz.func207.trans (congrArg some JH)
 f221:=Tryz.func148.trans (congrArg some JH)
 f224:=Tryz.func216.trans (congrArg some JH)
 f225:=Tryz.func215.trans (congrArg some JH)
 f260:=Tryz.func210.trans (congrArg some JH)
 f266:=Tryz.func221.trans (congrArg some JH)
 f267:=Tryz.func217.trans (congrArg some JH)
 f268:=Tryz.func180.trans (congrArg some JH)
 f314:=Tryz.func222.trans (congrArg some JH)
 t0:=Tryz.underlying0
 a0:=Tryz.isAgg0
 z0:=Tryz.sizeOf0
 v0:=Tryz.zeroValue0
 t3:=Tryz.underlying3
 a3:=Tryz.isAgg3
 z3:=Tryz.sizeOf3
 v3:=Tryz.zeroValue3
 t4:=Tryz.underlying4
 a4:=Tryz.isAgg4
 z4:=Tryz.sizeOf4
 v4:=Tryz.zeroValue4
 t5:=Tryz.underlying5
 a5:=Tryz.isAgg5
 z5:=Tryz.sizeOf5
 v5:=Tryz.zeroValue5
 t9:=Tryz.underlying9
 a9:=Tryz.isAgg9
 z9:=Tryz.sizeOf9
 v9:=Tryz.zeroValue9
 t21:=Tryz.underlying21
 a21:=Tryz.isAgg21
 z21:=Tryz.sizeOf21
 v21:=Tryz.zeroValue21
 t31:=Tryz.underlying92
 a31:=Tryz.isAgg92
 z31:=Tryz.sizeOf92
 v31:=Tryz.zeroValue92
 t46:=Tryz.underlying200
 a46:=Tryz.isAgg200
 z46:=Tryz.sizeOf200
 v46:=Tryz.zeroValue200
 t51:=Tryz.underlying258
 a51:=Tryz.isAgg258
 z51:=Tryz.sizeOf258
 v51:=Tryz.zeroValue258
 t105:=Tryz.underlying268
 a105:=Tryz.isAgg268
 z105:=Tryz.sizeOf268
 v105:=Tryz.zeroValue268
 t119:=Tryz.underlying276
 a119:=Tryz.isAgg276
 z119:=Tryz.sizeOf276
 t138:=Tryz.underlying278
 a138:=Tryz.isAgg278
 z138:=Tryz.sizeOf278
 v138:=Tryz.zeroValue278
 t139:=Tryz.underlying279
 a139:=Tryz.isAgg279
 z139:=Tryz.sizeOf279
 v139:=Tryz.zeroValue279
 t146:=Tryz.underlying262
 a146:=Tryz.isAgg262
 z146:=Tryz.sizeOf262
 v146:=Tryz.zeroValue262
 g1:=by kernel_rfl
 g3:=by kernel_rfl
 g4:=by kernel_rfl
 i0:=by kernel_rfl
 i3:=by kernel_rfl
 i4:=by kernel_rfl
 i5:=by kernel_rfl
 i9:=by kernel_rfl
 i21:=by kernel_rfl
 i31:=by kernel_rfl
 i46:=by kernel_rfl
 i51:=by kernel_rfl
 i105:=by kernel_rfl
 i138:=by kernel_rfl
 i139:=by kernel_rfl
 i146:=by kernel_rfl
 m1:=by kernel_rfl
 s1_3:=fun w h=>Go.Proofs.cell_of_shapedOpen_int (zero:=#[.int .i64 0]) (t:=3) h (of_decide_eq_true JH) JH rfl JH JH Tryz.underlying3
 m3:=by kernel_rfl
 m4:=by kernel_rfl
def Tryz.lays156_ren:Go.Shelf.Ren:=⟨fun|156=>84|165=>133|166=>103|169=>50|240=>146|241=>167|276=>179|277=>197|n=>n,fun|31=>92|9=>9|3=>3|4=>4|0=>0|20=>20|72=>88|76=>167|70=>86|37=>53|75=>166|127=>170|164=>250|5=>5|80=>97|n=>n,fun|n=>n⟩
theorem Tryz.lays156:Go.Proofs.Lays.n156 Tryz.prog Tryz.lays156_ren where
 mixed:=by kernel_rfl
 f156:=Tryz.func84.trans (congrArg some JH)
 f165:=Tryz.func133.trans (congrArg some JH)
 f166:=Tryz.func103.trans (congrArg some JH)
 f169:=Tryz.func50.trans (congrArg some JH)
 f240:=Tryz.func146.trans (congrArg some JH)
 f241:=Tryz.func167.trans (congrArg some JH)
 f276:=Tryz.func179.trans (congrArg some JH)
 f277:=Tryz.func197.trans (congrArg some JH)
 t0:=Tryz.underlying0
 a0:=Tryz.isAgg0
 z0:=Tryz.sizeOf0
 v0:=Tryz.zeroValue0
 t3:=Tryz.underlying3
 a3:=Tryz.isAgg3
 z3:=Tryz.sizeOf3
 v3:=Tryz.zeroValue3
 t4:=Tryz.underlying4
 a4:=Tryz.isAgg4
 z4:=Tryz.sizeOf4
 v4:=Tryz.zeroValue4
 t9:=Tryz.underlying9
 a9:=Tryz.isAgg9
 z9:=Tryz.sizeOf9
 v9:=Tryz.zeroValue9
 t20:=Tryz.underlying20
 a20:=Tryz.isAgg20
 z20:=Tryz.sizeOf20
 v20:=Tryz.zeroValue20
 t31:=Tryz.underlying92
 a31:=Tryz.isAgg92
 z31:=Tryz.sizeOf92
 v31:=Tryz.zeroValue92
 t37:=Tryz.underlying53
 a37:=Tryz.isAgg53
 z37:=Tryz.sizeOf53
 v37:=Tryz.zeroValue53
 t70:=Tryz.underlying86
 a70:=Tryz.isAgg86
 z70:=Tryz.sizeOf86
 v70:=Tryz.zeroValue86
 t72:=Tryz.underlying88
 a72:=Tryz.isAgg88
 z72:=Tryz.sizeOf88
 v72:=Tryz.zeroValue88
 t75:=Tryz.underlying166
 a75:=Tryz.isAgg166
 z75:=Tryz.sizeOf166
 v75:=Tryz.zeroValue166
 t76:=Tryz.underlying167
 a76:=Tryz.isAgg167
 z76:=Tryz.sizeOf167
 v76:=Tryz.zeroValue167
 t127:=Tryz.underlying170
 a127:=Tryz.isAgg170
 z127:=Tryz.sizeOf170
 v127:=Tryz.zeroValue170
 t164:=Tryz.underlying250
 a164:=Tryz.isAgg250
 z164:=Tryz.sizeOf250
 v164:=Tryz.zeroValue250
def Tryz.lays161_ren:Go.Shelf.Ren:=⟨fun|161=>136|231=>168|227=>169|233=>170|235=>171|228=>198|197=>199|151=>200|260=>210|152=>211|137=>219|119=>220|224=>216|225=>215|217=>214|266=>221|n=>n,fun|9=>9|4=>4|3=>3|5=>5|117=>237|116=>236|0=>0|124=>240|105=>268|21=>21|119=>276|46=>200|139=>279|138=>278|n=>n,fun|3=>3|4=>4|n=>n⟩
theorem Tryz.lays161:Go.Proofs.Lays.n161 Tryz.prog Tryz.lays161_ren where
 mixed:=by kernel_rfl
 f119:=Tryz.func220.trans (congrArg some JH)
 f137:=Tryz.func219.trans (congrArg some JH)
 f151:=Tryz.func200.trans (congrArg some JH)
 f152:=Tryz.func211.trans (congrArg some JH)
 f161:=Tryz.func136.trans (congrArg some JH)
 f197:=Tryz.func199.trans (congrArg some JH)
 f217:=Tryz.func214.trans (congrArg some JH)
 f224:=Tryz.func216.trans (congrArg some JH)
 f225:=Tryz.func215.trans (congrArg some JH)
 f227:=Tryz.func169.trans (congrArg some JH)
 f228:=Tryz.func198.trans (congrArg some JH)
 f231:=Tryz.func168.trans (congrArg some JH)
 f233:=Tryz.func170.trans (congrArg some JH)
 f235:=Tryz.func171.trans (congrArg some JH)
 f260:=Tryz.func210.trans (congrArg some JH)
 f266:=Tryz.func221.trans (congrArg some JH)
 t0:=Tryz.underlying0
 a0:=Tryz.isAgg0
 z0:=Tryz.sizeOf0
 v0:=Tryz.zeroValue0
 t3:=Tryz.underlying3
 a3:=Tryz.isAgg3
 z3:=Tryz.sizeOf3
 v3:=Tryz.zeroValue3
 t4:=Tryz.underlying4
 a4:=Tryz.isAgg4
 z4:=Tryz.sizeOf4
 v4:=Tryz.zeroValue4
 t5:=Tryz.underlying5
 a5:=Tryz.isAgg5
 z5:=Tryz.sizeOf5
 v5:=Tryz.zeroValue5
 t9:=Tryz.underlying9
 a9:=Tryz.isAgg9
 z9:=Tryz.sizeOf9
 v9:=Tryz.zeroValue9
 t21:=Tryz.underlying21
 a21:=Tryz.isAgg21
 z21:=Tryz.sizeOf21
 v21:=Tryz.zeroValue21
 t46:=Tryz.underlying200
 a46:=Tryz.isAgg200
 z46:=Tryz.sizeOf200
 v46:=Tryz.zeroValue200
 t105:=Tryz.underlying268
 a105:=Tryz.isAgg268
 z105:=Tryz.sizeOf268
 v105:=Tryz.zeroValue268
 t116:=Tryz.underlying236
 a116:=Tryz.isAgg236
 z116:=Tryz.sizeOf236
 t117:=Tryz.underlying237
 a117:=Tryz.isAgg237
 z117:=Tryz.sizeOf237
 v117:=Tryz.zeroValue237
 t119:=Tryz.underlying276
 a119:=Tryz.isAgg276
 z119:=Tryz.sizeOf276
 t124:=Tryz.underlying240
 a124:=Tryz.isAgg240
 z124:=Tryz.sizeOf240
 v124:=Tryz.zeroValue240
 t138:=Tryz.underlying278
 a138:=Tryz.isAgg278
 z138:=Tryz.sizeOf278
 v138:=Tryz.zeroValue278
 t139:=Tryz.underlying279
 a139:=Tryz.isAgg279
 z139:=Tryz.sizeOf279
 v139:=Tryz.zeroValue279
 g3:=by kernel_rfl
 g4:=by kernel_rfl
def Tryz.lays171_ren:Go.Shelf.Ren:=⟨fun|171=>46|243=>102|246=>145|283=>175|284=>176|285=>177|286=>178|129=>188|317=>201|318=>202|319=>203|320=>204|337=>212|338=>213|n=>n,fun|3=>3|9=>9|2=>2|4=>4|171=>244|0=>0|53=>245|37=>53|5=>5|173=>248|212=>272|51=>258|20=>20|213=>273|46=>200|232=>281|233=>282|n=>n,fun|17=>1|18=>5|19=>6|n=>n⟩
theorem Tryz.lays171:Go.Proofs.LaysM.n171 Tryz.prog Tryz.lays171_ren where
 mixed:=by kernel_rfl
 f129:=Tryz.func188.trans (congrArg some JH)
 f171:=Tryz.func46.trans (congrArg some JH)
 f243:=Tryz.func102.trans (congrArg some JH)
 f246:=Tryz.func145.trans (congrArg some JH)
 f283:=Tryz.func175.trans (congrArg some JH)
 f284:=Tryz.func176.trans (congrArg some JH)
 f285:=Tryz.func177.trans (congrArg some JH)
 f286:=Tryz.func178.trans (congrArg some JH)
 f317:=Tryz.func201.trans (congrArg some JH)
 f318:=Tryz.func202.trans (congrArg some JH)
 f319:=Tryz.func203.trans (congrArg some JH)
 f320:=Tryz.func204.trans (congrArg some JH)
 f337:=Tryz.func212.trans (congrArg some JH)
 f338:=Tryz.func213.trans (congrArg some JH)
 t0:=Tryz.underlying0
 a0:=Tryz.isAgg0
 z0:=Tryz.sizeOf0
 v0:=Tryz.zeroValue0
 t2:=Tryz.underlying2
 a2:=Tryz.isAgg2
 z2:=Tryz.sizeOf2
 v2:=Tryz.zeroValue2
 t3:=Tryz.underlying3
 a3:=Tryz.isAgg3
 z3:=Tryz.sizeOf3
 v3:=Tryz.zeroValue3
 t4:=Tryz.underlying4
 a4:=Tryz.isAgg4
 z4:=Tryz.sizeOf4
 v4:=Tryz.zeroValue4
 t5:=Tryz.underlying5
 a5:=Tryz.isAgg5
 z5:=Tryz.sizeOf5
 v5:=Tryz.zeroValue5
 t9:=Tryz.underlying9
 a9:=Tryz.isAgg9
 z9:=Tryz.sizeOf9
 v9:=Tryz.zeroValue9
 t20:=Tryz.underlying20
 a20:=Tryz.isAgg20
 z20:=Tryz.sizeOf20
 v20:=Tryz.zeroValue20
 t37:=Tryz.underlying53
 a37:=Tryz.isAgg53
 z37:=Tryz.sizeOf53
 v37:=Tryz.zeroValue53
 t46:=Tryz.underlying200
 a46:=Tryz.isAgg200
 z46:=Tryz.sizeOf200
 v46:=Tryz.zeroValue200
 t51:=Tryz.underlying258
 a51:=Tryz.isAgg258
 z51:=Tryz.sizeOf258
 v51:=Tryz.zeroValue258
 t53:=Tryz.underlying245
 a53:=Tryz.isAgg245
 z53:=Tryz.sizeOf245
 v53:=Tryz.zeroValue245
 t171:=Tryz.underlying244
 a171:=Tryz.isAgg244
 z171:=Tryz.sizeOf244
 v171:=Tryz.zeroValue244
 t173:=Tryz.underlying248
 a173:=Tryz.isAgg248
 z173:=Tryz.sizeOf248
 v173:=Tryz.zeroValue248
 t212:=Tryz.underlying272
 a212:=Tryz.isAgg272
 z212:=Tryz.sizeOf272
 v212:=Tryz.zeroValue272
 t213:=Tryz.underlying273
 a213:=Tryz.isAgg273
 z213:=Tryz.sizeOf273
 t232:=Tryz.underlying281
 a232:=Tryz.isAgg281
 z232:=Tryz.sizeOf281
 v232:=Tryz.zeroValue281
 t233:=Tryz.underlying282
 a233:=Tryz.isAgg282
 z233:=Tryz.sizeOf282
 v233:=Tryz.zeroValue282
 g17:=by kernel_rfl
 g18:=by kernel_rfl
 g19:=by kernel_rfl
 i0:=by kernel_rfl
 i2:=by kernel_rfl
 i3:=by kernel_rfl
 i4:=by kernel_rfl
 i5:=by kernel_rfl
 i9:=by kernel_rfl
 i20:=by kernel_rfl
 i37:=by kernel_rfl
 i46:=by kernel_rfl
 i51:=by kernel_rfl
 i53:=by kernel_rfl
 i171:=by kernel_rfl
 i173:=by kernel_rfl
 i212:=by kernel_rfl
 i232:=by kernel_rfl
 i233:=by kernel_rfl
 m17:=by kernel_rfl
 m18:=by kernel_rfl
 m19:=by kernel_rfl
def Tryz.lays290_ren:Go.Shelf.Ren:=⟨fun|290=>191|324=>209|n=>n,fun|37=>53|3=>3|0=>0|4=>4|20=>20|75=>166|5=>5|80=>97|9=>9|n=>n,fun|14=>0|n=>n⟩
theorem Tryz.lays290:Go.Proofs.LaysM.n290 Tryz.prog Tryz.lays290_ren where
 mixed:=by kernel_rfl
 f290:=Tryz.func191.trans (congrArg some JH)
 f324:=Tryz.func209.trans (congrArg some JH)
 t0:=Tryz.underlying0
 a0:=Tryz.isAgg0
 z0:=Tryz.sizeOf0
 v0:=Tryz.zeroValue0
 t3:=Tryz.underlying3
 a3:=Tryz.isAgg3
 z3:=Tryz.sizeOf3
 v3:=Tryz.zeroValue3
 t4:=Tryz.underlying4
 a4:=Tryz.isAgg4
 z4:=Tryz.sizeOf4
 v4:=Tryz.zeroValue4
 t20:=Tryz.underlying20
 a20:=Tryz.isAgg20
 z20:=Tryz.sizeOf20
 v20:=Tryz.zeroValue20
 t37:=Tryz.underlying53
 a37:=Tryz.isAgg53
 z37:=Tryz.sizeOf53
 v37:=Tryz.zeroValue53
 t75:=Tryz.underlying166
 a75:=Tryz.isAgg166
 z75:=Tryz.sizeOf166
 v75:=Tryz.zeroValue166
 g14:=by kernel_rfl
 t5:=Tryz.underlying5
 a5:=Tryz.isAgg5
 z5:=Tryz.sizeOf5
 v5:=Tryz.zeroValue5
 t9:=Tryz.underlying9
 a9:=Tryz.isAgg9
 z9:=Tryz.sizeOf9
 v9:=Tryz.zeroValue9
 t80:=Tryz.underlying97
 a80:=Tryz.isAgg97
 z80:=Tryz.sizeOf97
 v80:=Tryz.zeroValue97
 i0:=by kernel_rfl
 i3:=by kernel_rfl
 i4:=by kernel_rfl
 i5:=by kernel_rfl
 i9:=by kernel_rfl
 i20:=by kernel_rfl
 i37:=by kernel_rfl
 i75:=by kernel_rfl
 i80:=by kernel_rfl
 m14:=by kernel_rfl
end Go.Proofs
namespace Go.Proofs
open Go.Shelf
theorem Tryz.extra105:Builder.Extra Tryz.prog Tryz.lays105_ren where
 sizeBuilder:=by kernel_rfl
 liesBuilder:=by kernel_rfl
 t5:=Tryz.underlying5
 a5:=Tryz.isAgg5
 z5:=Tryz.sizeOf5
 v5:=Tryz.zeroValue5
 infoByte:=by kernel_rfl
 cellsByte:=by kernel_rfl
 sizeByte:=by kernel_rfl
 neB5:=by decide
theorem Tryz.extra156:Builder.Extra Tryz.prog Tryz.lays156_ren where
 sizeBuilder:=by kernel_rfl
 liesBuilder:=by kernel_rfl
 t5:=Tryz.underlying5
 a5:=Tryz.isAgg5
 z5:=Tryz.sizeOf5
 v5:=Tryz.zeroValue5
 infoByte:=by kernel_rfl
 cellsByte:=by kernel_rfl
 sizeByte:=by kernel_rfl
 neB5:=by decide
end Go.Proofs
namespace Go.Mw
open Go.Proofs Go.RowKit
section one
variable {S:Je} {ι:Nat→Value} {H:Nat→Option AO} {w:World}
theorem JK2 {a:Value}{vs:List Value}(h:JR (Jm S ι H w) [.raw a] vs):vs=[a]:=by
 match vs,h with
 |[v],h=>rw [Qi (Jr h.1)]
theorem JD0 {a b:Value}{vs:List Value}(h:JR (Jm S ι H w) [.raw a,.raw b] vs):vs=[a,b]:=by
 match vs,h with
 |[v,u],h=>rw [Qi (Jr h.1),Qi (Jr h.2.1)]
end one
theorem JCK {v:Value}(h:v.oneCell'=true):∀S ι H w,Jm S ι H w (.raw v) v:=fun S ι H w=>⟨_,rfl,RepD.raw v h⟩
theorem JLN (s p:List UInt8)(hs:s.length≤9223372036854775807):Jb Tryz.prog 106 [.str s,.str p] (.bool (Lib.hasSuffix s p)) []:=
 JCn fun S ι w vs hG hin h=>by
  rw [JD0 h]
  have:=Any.strings_HasSuffix Tryz.lays100 (bs s) (bs p) w (by rw [Z2];exact hs)
  rw [Z3,Z3] at this
  exact this.mono fun e w' ⟨he,hw⟩=>⟨_,he,JCK rfl,hw▸Below.refl _ _⟩
theorem JPt (s p:List UInt8)(hs:s.length≤9223372036854775807):Jb Tryz.prog 108 [.str s,.str p] (.str (Lib.trimSuffix s p)) []:=
 JCn fun S ι w vs hG hin h=>by
  rw [JD0 h]
  have:=Any.strings_TrimSuffix Tryz.lays102 (bs s) (bs p) w (by rw [Z2];exact hs)
  rw [Z3,Z3] at this
  exact this.mono fun e w' ⟨he,hw⟩=>⟨_,he,JCK rfl,hw▸Below.refl _ _⟩
theorem JPh (n:Int)(h0:-9223372036854775808≤n)(h1:n≤9223372036854775807)(g:Nat)(hg:Tryz.prog.globalNamed "internal/strconv.uint64pow10" = some g):Jb Tryz.prog 46 [.int n] (.str (Lib.itoa n)) []:=
 JCn fun S ι w vs hG hin h=>by
  rw [JK2 h]
  have:=Any.strconv_Itoa Tryz.lays171 n h0 h1 w (hG.tab _ _ _ (by simp [JFf]) g hg).2
  exact this.mono fun e w' ⟨he,k,os,hw⟩=>⟨_,he,JCK rfl,by subst hw;exact Go.Lib.below_grow _ _ (Nat.le_refl _) _ _⟩
theorem JPo (s:List UInt8)(c:Nat)(hc:c≤9223372036854775807)(hl:s.length*c≤140737488355328):Jb Tryz.prog 131 [.str s,.int c] (.str (Lib.repeatL s c)) []:=
 JCn fun S ι w vs hG hin h=>by
  rw [JD0 h]
  have:=Any.strings_Repeat Tryz.lays105 Tryz.extra105 (bs s) c w hc (by rw [Z2];exact hl)
  rw [Z3] at this
  exact this.mono fun e w' ⟨he,hw⟩=>⟨_,he,JCK rfl,hw⟩
theorem JLO (xs:List (List UInt8))(sep:List UInt8)(hN:xs.length≤140737488355328)(hl:(Lib.join xs sep).length≤140737488355328) :
  Jb Tryz.prog 84 [.leaf (.d (.sl 1 (xs.map fun x=>[.raw (.string (bs x))]))),.str sep] (.str (Lib.join xs sep)) []:=
 JCn fun S ι w vs hG hin h=>by
  match vs,h with
  |[v,u],h=>
  have hu:=Qi (Jr h.2.1)
  have hv:RepD S w _ v:=Jr h.1
  subst hu
  have em:(xs.map bs).map (·.data.toList)=xs:=by
   rw [List.map_map,show ((fun x:ByteArray=>x.data.toList) ∘ bs)=id from funext fun x=>Z3 x,List.map_id]
  generalize hes:(xs.map fun x=>[D.raw (.string (bs x))])=es at hv
  cases hv with
  |nil _ p c=>
   have:xs=[]:=by simpa using hes
   subst this
   have:=Any.strings_Join_none Tryz.lays156 Tryz.extra156 p c (bs sep) w
   exact this.mono fun e w' ⟨he,hw⟩=>⟨_,he,JCK rfl,hw▸Below.refl _ _⟩
  |sl _ _ b off c vals hc hk hS hw hr=>
   have hlen:es.length=(xs.map bs).length:=by rw [←hes];simp
   have hat:∀(j:Nat) (x:ByteArray),(xs.map bs)[j]? = some x→es[j]? = some [.raw (.string x)]:=fun j x hx=>by
    rw [←hes,List.getElem?_map]
    rw [List.getElem?_map] at hx
    cases hj:xs[j]? with
    |none=>simp [hj] at hx
    |some y=>simp only [hj,Option.map_some,Option.some.injEq] at hx ⊢;rw [hx]
   by_cases h0:xs=[]
   ·subst h0
    simp at hes;subst hes
    have:=Any.strings_Join_none Tryz.lays156 Tryz.extra156 (some ⟨b,off,none⟩) c (bs sep) w
    exact this.mono fun e w' ⟨he,hw⟩=>⟨_,he,JCK rfl,hw▸Below.refl _ _⟩
   have hb:b<w.heap.size:=by
    cases xs with
    |nil=>exact absurd rfl h0
    |cons y ys=>exact hin b _ (hS 0 _ 0 _ (hat 0 (bs y) rfl) rfl)
   have:=Any.strings_Join Tryz.lays156 Tryz.extra156 b off c (xs.map bs) (bs sep) w (fun j x hx=>by
    have h1:=hw j _ 0 _ (hat j x hx) rfl
    have h2:=Qi (hr j _ 0 _ (hat j x hx) rfl)
    rw [Nat.mul_one,Nat.add_zero] at h1
    rw [h1,h2]) hb (by simpa using hN) (by rw [←hlen];exact hc) (by rw [em,Z3];exact hl)
   rw [em,Z3,←hlen] at this
   exact this.mono fun e w' ⟨he,hw⟩=>⟨_,he,JCK rfl,hw⟩
theorem JPi (n:Int)(h0:0≤n)(h1:n≤18446744073709551615):Jb Tryz.prog 156 [.raw (.int .u64 n)] (.int (Lib.bitLen n.toNat)) []:=
 JCn fun S ι w vs hG hin h=>by
  rw [JK2 h]
  exact (Any.bits_Len Tryz.lays125 n w h0 h1).mono fun e w' ⟨he,hw⟩=>⟨_,he,JCK rfl,hw▸Below.refl _ _⟩
theorem JPs (s:List UInt8)(c:UInt8)(hc:c.toNat<128):Jb Tryz.prog 136 [.str s,.str [c]] (.str (Lib.trimLeftB s c)) []:=
 JCn fun S ι w vs hG hin h=>by
  rw [JD0 h]
  have:=Any.strings_TrimLeft_one Tryz.lays161 (bs s) c hc w
  rw [Z3] at this
  exact this.mono fun e w' ⟨he,hw⟩=>⟨_,he,JCK rfl,hw▸Below.refl _ _⟩
theorem JLL (s p:List UInt8)(hs:s.length<4294967281)(g:Nat)(hg:Tryz.prog.globalNamed "internal/bytealg.MaxLen" = some g)(hr:Tryz.lays145_ren.g 1=g) :
  Jb Tryz.prog 150 [.str s,.str p] (.tup [(false,[.d (.raw (.string (bs (Lib.cut s p).1)))]),(false,[.d (.raw (.string (bs (Lib.cut s p).2.1)))]),(false,[.d (.raw (.bool (Lib.cut s p).2.2))])]) []:=
 JCn fun S ι w vs hG hin h=>by
  rw [JD0 h]
  obtain ⟨m,hm⟩:=(hG.max g hg).2
  have:=Any.strings_Cut { Tryz.lays145 with } (bs s) (bs p) m w (by rw [Z2];exact hs) (by rw [hr];exact hm)
  rw [Z3,Z3] at this
  exact this.mono fun e w' ⟨he,n,hw⟩=>⟨_,he,fun S ι H w=>⟨_,rfl,⟨_,rfl,RepD.raw _ rfl⟩,⟨_,rfl,RepD.raw _ rfl⟩,⟨_,rfl,RepD.raw _ rfl⟩,trivial⟩,hw▸below_drewN (Below.refl _ _) n⟩
def JC1 (s p:List UInt8):List (List D):=(Lib.splitB (bs p) 0 (Lib.countB (bs s) (bs p)) (bs s)).map fun x=>[.raw (.string x)]
theorem JPr (s p:List UInt8)(hp:1≤p.length)(hs:s.length<4294967281)(g:Nat)(hg:Tryz.prog.globalNamed "internal/bytealg.MaxLen" = some g)(hr:Tryz.lays146_ren.g 1=g) :
  Jb Tryz.prog 107 [.str s,.str p] (.leaf (.own 900 0 (JC1 s p).length (JC1 s p).length)) [(900,.arr 9 1 (JC1 s p))]:=
 JQp rfl (fun x hx=>by obtain ⟨y,_,rfl⟩:=List.mem_map.1 hx;rfl) (by omega) fun S ι w vs hG hin h=>by
  rw [JD0 h]
  obtain ⟨m,hm⟩:=(hG.max g hg).2
  have hlen:=Lib.splitB_all (bs p) (by rw [Z2];exact hp) 0 _ (bs s) rfl
  have hle:=Lib.countB_le (bs p) (by rw [Z2];exact hp) (bs s).size (bs s) (Nat.le_refl _)
  have:=Any.strings_Split { Tryz.lays146 with } Tryz.lays146.i9 (bs s) (bs p) m w (by rw [Z2];exact hs) (by rw [hr];exact hm) (by rw [Z2];exact hp)
  refine this.mono fun e w' ⟨he,hw⟩=>⟨_,(Lib.splitB (bs p) 0 (Lib.countB (bs s) (bs p)) (bs s)).map Value.string,he,?_,fun S w=>?_,?_⟩
  ·subst hw
   have hn:(JC1 s p).length=Lib.countB (bs s) (bs p)+1:=by unfold JC1;rw [List.length_map];exact hlen
   refine ⟨by rw [List.length_map,hn,hlen,Nat.mul_one],.inr ⟨w.heap.size,Lib.countB (bs s) (bs p)+1,_,by rw [hn],Nat.le_refl _,Go.heap_alloc_new w _,by omega,?_,?_,?_⟩⟩
   ·rw [Z2] at hle
    unfold maxLen
    omega
   ·rw [List.size_toArray,List.length_map,hlen,Nat.mul_one]
   ·rw [hn,Nat.mul_one,List.take_of_length_le]
    rw [List.length_map,hlen];exact Nat.le_refl _
  ·unfold JC1
   generalize Lib.splitB (bs p) 0 (Lib.countB (bs s) (bs p)) (bs s)=l
   induction l with
   |nil=>trivial
   |cons x l ih=>exact ⟨RepD.raw _ rfl,ih⟩
  ·subst hw
   exact ⟨rfl,rfl,rfl,by simp,fun k hk=>Below.heap_alloc w _ k hk⟩
end Go.Mw
namespace Go.Bk
abbrev Bs:=List UInt8
theorem JEh {α:Type}{p:List α→Prop}(nil:p [])(snoc:∀l a,p l→p (l++[a]))(l:List α):p l:=by
 have h:∀r:List α,p r.reverse:=by
  intro r
  induction r with
  |nil=>exact nil
  |cons a r ih=>rw [List.reverse_cons];exact snoc _ _ ih
 have:=h l.reverse
 rwa [List.reverse_reverse] at this
def Jl (n:Nat):Bs:=Lib.decDigits n
theorem JC6 {n:Nat}(h:n<10):Jl n=[UInt8.ofNat (48+n)]:=by unfold Jl;rw [Lib.decDigits,dif_pos h]
theorem JEl {n:Nat}(h:¬n<10):Jl n=Jl (n / 10)++[UInt8.ofNat (48+n%10)]:=by unfold Jl;rw [Lib.decDigits,dif_neg h]
theorem JRv (n:Nat):Lib.itoa (n:Int)=Jl n:=by unfold Lib.itoa Jl;rw [if_neg (by omega),Int.toNat_natCast]
def Yb (c:UInt8):Bool:=decide (48≤c.toNat)&&decide (c.toNat≤57)
theorem JEN {c:UInt8}:Yb c=true↔48≤c.toNat∧c.toNat≤57:=by simp [Yb]
theorem JFm {n:Nat}(h:n<256):(UInt8.ofNat n).toNat=n:=by simp;omega
theorem JG3 {d:Nat}(h:d<10):(UInt8.ofNat (48+d)).toNat=48+d:=JFm (by omega)
theorem JMX {d:Nat}(h:d<10):Yb (UInt8.ofNat (48+d))=true:=by rw [JEN,JG3 h];omega
theorem JOc {a b:UInt8}(h:a.toNat=b.toNat):a=b:=UInt8.toNat.inj h
theorem JDe (n:Nat):(Jl n).all Yb=true:=by
 induction n using Nat.strongRecOn with
 |_ n ih=>
  by_cases h:n<10
  ·rw [JC6 h,List.all_cons,JMX h];rfl
  ·rw [JEl h,List.all_append,ih (n / 10) (by omega),List.all_cons,JMX (show n%10<10 by omega)];rfl
theorem JHv (n:Nat):Jl n≠[]:=by
 by_cases h:n<10
 ·rw [JC6 h];simp
 ·rw [JEl h];simp
theorem JOa:Jl 0=[48]:=JC6 (by omega)
theorem JOZ (n:Nat)(h:1≤n):(Jl n).head?≠some 48:=by
 induction n using Nat.strongRecOn with
 |_ n ih=>
  by_cases h10:n<10
  ·rw [JC6 h10]
   simp only [List.head?_cons,ne_eq,Option.some.injEq]
   intro e
   have:=congrArg UInt8.toNat e
   rw [JG3 h10] at this
   simp at this
   omega
  ·rw [JEl h10]
   have h1:=ih (n / 10) (by omega) (by omega)
   cases hx:Jl (n / 10) with
   |nil=>exact absurd hx (JHv _)
   |cons a l=>rw [hx] at h1;simpa using h1
theorem JAV {n k:Nat}(h:n<10^k)(hk:1≤k):(Jl n).length≤k:=by
 induction k generalizing n with
 |zero=>omega
 |succ k ih=>
  by_cases h10:n<10
  ·rw [JC6 h10];simp
  ·rw [JEl h10,List.length_append,List.length_singleton]
   by_cases hk0:k=0
   ·subst hk0;simp at h;omega
   ·have:=ih (n:=n / 10) (by rw [Nat.pow_succ] at h;omega) (by omega)
    omega
def JZ (l:Bs):Nat:=l.foldl (fun n c=>10*n+(c.toNat-48)) 0
theorem JHy (l:Bs)(c:UInt8):JZ (l++[c])=10*JZ l+(c.toNat-48):=by simp [JZ]
theorem JC8 (n:Nat):JZ (Jl n)=n:=by
 induction n using Nat.strongRecOn with
 |_ n ih=>
  by_cases h:n<10
  ·rw [JC6 h];show 10*0+_=_;rw [JG3 h];omega
  ·rw [JEl h,JHy,ih (n / 10) (by omega),JG3 (by omega)];omega
theorem JVJ (s:Bs)(h0:s≠[])(hd:s.all Yb=true)(hz:s=[48]∨s.head?≠some 48):Jl (JZ s)=s:=by
 induction s using JEh with
 |nil=>exact absurd rfl h0
 |snoc l c ih=>
  rw [List.all_append] at hd
  simp only [List.all_cons,List.all_nil,Bool.and_true,Bool.and_eq_true] at hd
  obtain ⟨hl,hc⟩:=hd
  have hc:=JEN.1 hc
  rw [JHy]
  by_cases hn:l=[]
  ·subst hn
   show Jl (10*0+_)=[c]
   rw [JC6 (by omega)]
   congr 1
   apply JOc
   rw [JFm (by omega)];omega
  ·have hh:l.head?≠some 48:=by
    cases l with
    |nil=>exact absurd rfl hn
    |cons a l=>
     rcases hz with hz|hz
     ·simp at hz
     ·simpa using hz
   have e:=ih hn hl (.inr hh)
   have hv:1≤JZ l:=by
    rcases Nat.eq_zero_or_pos (JZ l) with h|h
    ·rw [h,JOa] at e;rw [←e] at hh;simp at hh
    ·exact h
   rw [JEl (by omega),show (10*JZ l+(c.toNat-48)) / 10=JZ l by omega,e]
   congr 2
   apply JOc
   rw [JFm (by omega)];omega
def pad (c:UInt8)(w:Nat)(x:Bs):Bs:=List.replicate (w-x.length) c++x
theorem JFp (c:UInt8){w:Nat}{x:Bs}(h:x.length≤w):(pad c w x).length=w:=by simp [pad];omega
def dw (c:UInt8)(x:Bs):Bs:=Lib.trimLeftB x c
theorem JQ6 (c:UInt8)(k:Nat)(x:Bs):dw c (List.replicate k c++x)=dw c x:=by
 induction k with
 |zero=>rfl
 |succ k ih=>rw [List.replicate_succ,List.cons_append];unfold dw Lib.trimLeftB at *;rw [List.dropWhile_cons_of_pos (by simp),ih]
theorem JL0 (c:UInt8)(w:Nat)(x:Bs):dw c (pad c w x)=dw c x:=JQ6 c _ x
theorem dw_head {c:UInt8}{x:Bs}(h:x.head?≠some c):dw c x=x:=by
 cases x with
 |nil=>rfl
 |cons a l=>unfold dw Lib.trimLeftB;rw [List.dropWhile_cons_of_neg (by intro e;rw [beq_iff_eq] at e;subst e;simp at h)]
theorem JQ5 (n w:Nat)(h:1≤n):dw 48 (pad 48 w (Jl n))=Jl n:=by rw [JL0,dw_head (JOZ n h)]
theorem JQ4 (n w:Nat):dw 32 (pad 32 w (Jl n))=Jl n:=by
 rw [JL0,dw_head]
 intro h
 have:=List.all_eq_true.1 (JDe n) 32 (List.mem_of_mem_head? h)
 exact absurd this (by decide)
def QF (s:Bs):Bool:=decide (s≠[])&&decide (s.length≤12)&&(decide (s=[48]) || decide (s.head?≠some 48))&&s.all Yb
theorem JFY {s:Bs}:QF s=true↔s≠[]∧s.length≤12∧(s=[48]∨s.head?≠some 48)∧s.all Yb=true:=by
 unfold QF
 simp only [Bool.and_eq_true,Bool.or_eq_true,decide_eq_true_eq]
 constructor
 ·rintro ⟨⟨⟨a,b⟩,c⟩,d⟩;exact ⟨a,b,c,d⟩
 ·rintro ⟨a,b,c,d⟩;exact ⟨⟨⟨a,b⟩,c⟩,d⟩
theorem JBm {n:Nat}(h:n<10^12):QF (Jl n)=true:=by
 refine JFY.2 ⟨JHv n,JAV h (by omega),?_,JDe n⟩
 by_cases h0:n=0
 ·subst h0;exact .inl JOa
 ·exact .inr (JOZ n (by omega))
theorem JEG {s:Bs}(h:QF s=true):Jl (JZ s)=s:=by
 obtain ⟨a,_,c,d⟩:=JFY.1 h
 exact JVJ s a d c
def dig (c:UInt8):Nat:=if Yb c then c.toNat-48 else 0
def Y5:Bs→Nat
 |[]=>0
 |c::l=>dig c+Y5 l
theorem JLz (a b:Bs):Y5 (a++b)=Y5 a+Y5 b:=by
 induction a with
 |nil=>simp [Y5]
 |cons c a ih=>simp [Y5,ih];omega
theorem JQz (c:UInt8):dig c≤9:=by
 unfold dig
 split
 ·next h=>have:=JEN.1 h;omega
 ·exact Nat.zero_le _
theorem JQ2 (l:Bs):Y5 l≤9*l.length:=by
 induction l with
 |nil=>simp [Y5]
 |cons c l ih=>have:=JQz c;simp [Y5];omega
def chk (l:Bs):Bs:=Jl (Y5 l%10)
theorem JQn (l:Bs):(chk l).length=1:=by unfold chk;rw [JC6 (by omega)];rfl
def QX (c:UInt8):Bs→List Bs
 |[]=>[[]]
 |x::l=>if x=c then []::QX c l else match QX c l with
  |[]=>[[x]]
  |a::r=>(x::a)::r
theorem JD8 (c:UInt8)(l:Bs):QX c l≠[]:=by
 induction l with
 |nil=>simp [QX]
 |cons x l ih=>
  unfold QX
  split
  ·simp
  ·split<;>simp
theorem cutB_hit (c:UInt8)(l:Bs):QX c (c::l)=[]::QX c l:=by rw [QX,if_pos rfl]
theorem JDJ (c:UInt8):∀(a l:Bs),c ∉ a→QX c (a++c::l)=a::QX c l
 |[],l,_=>cutB_hit c l
 |x::a,l,h=>by
  have hx:x≠c:=fun e=>h (by simp [e])
  rw [List.cons_append,QX,if_neg hx,JDJ c a l (fun e=>h (by simp [e]))]
theorem JDK (c:UInt8):∀(a:Bs),c ∉ a→QX c a=[a]
 |[],_=>rfl
 |x::a,h=>by
  have hx:x≠c:=fun e=>h (by simp [e])
  rw [QX,if_neg hx,JDK c a (fun e=>h (by simp [e]))]
def ends (c:UInt8)(ls:List Bs):Bs:=(ls.map (· ++ [c])).flatten
theorem JL3 (c:UInt8):ends c []=[]:=rfl
theorem JAR (c:UInt8)(l:Bs)(ls:List Bs):ends c (l::ls)=l++c::ends c ls:=by simp [ends]
theorem JEB (c:UInt8)(a b:List Bs):ends c (a++b)=ends c a++ends c b:=by simp [ends]
theorem JLr (c:UInt8):∀(ls:List Bs),(∀l∈ls,c ∉ l)→QX c (ends c ls)=ls++[[]]
 |[],_=>rfl
 |l::ls,h=>by
  rw [JAR,JDJ c l _ (h l (by simp)),JLr c ls (fun x hx=>h x (by simp [hx]))];rfl
theorem JQt (c:UInt8)(t:Bs):QX c (t++[c])=QX c t++[[]]:=by
 induction t with
 |nil=>rw [List.nil_append,cutB_hit];rfl
 |cons x t ih=>
  rw [List.cons_append,QX,QX]
  split
  ·rw [ih];rfl
  ·rw [ih]
   cases hc:QX c t with
   |nil=>exact absurd hc (JD8 c t)
   |cons a r=>rfl
theorem JG1 (c:UInt8)(t:Bs):ends c (QX c t)=t++[c]:=by
 induction t with
 |nil=>rfl
 |cons x t ih=>
  rw [QX]
  split
  ·next h=>subst h;rw [JAR,ih];rfl
  ·cases hc:QX c t with
   |nil=>exact absurd hc (JD8 c t)
   |cons a r=>
    rw [hc,JAR] at ih
    show ends c ((x::a)::r)=_
    rw [JAR,List.cons_append,ih];rfl
end Go.Bk
namespace Go.Bk
def Qj (n lo hi:Int):Bool:=decide (lo≤n)&&decide (n≤hi)
theorem ZI {n lo hi:Int}:Qj n lo hi=true↔lo≤n∧n≤hi:=by simp [Qj]
def Qv:List Int→Bool
 |a::b::l=>decide (a<b)&&Qv (b::l)
 |_=>true
def Zp (n most:Nat)(ok rise:Bool):Int:=if most<n then 3 else if ok then (if rise then 0 else 7) else 1
theorem JCB {n most:Nat}{ok rise:Bool}(h:Zp n most ok rise=0):n≤most∧ok=true∧rise=true:=by
 unfold Zp at h
 split at h
 ·cases h
 ·cases ok<;>cases rise<;>simp at h;exact ⟨by omega,rfl,rfl⟩
structure Tr where
 flow:Int
 pour:Int
 shown:Int
 deriving DecidableEq,Inhabited
structure Sh where
 meter:Int
 tries:List Tr
 deriving DecidableEq,Inhabited
def ZB (t:Tr):Bool:=Qj t.flow 1 100000&&Qj t.pour 0 9999999&&Qj t.shown 0 9999999
def Ym (x:Sh):Bool:=Qj x.meter 1 999999&&decide (x.tries.length≤6)&&x.tries.all ZB
def Y9 (l:List Sh):Int:=Zp l.length 12 (l.all Ym) (Qv (l.map Sh.meter))
def Y6 (m:Int):Bs:=35::pad 48 6 (Jl m.toNat)
def Qm (t:Tr):Bs:=pad 32 6 (Jl t.flow.toNat)++32::(pad 32 7 (Jl t.pour.toNat)++32::pad 32 7 (Jl t.shown.toNat))
def full (h:Bs):Bs:=h++32::chk h
def JBq (x:Sh):List Bs:=full (Y6 x.meter)::x.tries.map fun t=>full (Qm t)
def ZK (l:List Sh):List Bs:=(l.map JBq).flatten
def YZ (l:List Sh):Bs:=ends 10 (ZK l)
def JB0 (l:List Sh):Bs:=if Y9 l=0 then YZ l else []
theorem JHT (a b:List Sh):ZK (a++b)=ZK a++ZK b:=by simp [ZK]
theorem JUF (a b:List Sh):YZ (a++b)=YZ a++YZ b:=by unfold YZ;rw [JHT,JEB]
theorem JEJ (h:Bs):(full h).length=h.length+2:=by unfold full;rw [List.length_append,List.length_cons,JQn]
theorem JIv (h:Bs):(full h).take h.length=h:=by unfold full;simp
theorem JRe (h:Bs):(full h).drop (h.length+1)=chk h:=by
 unfold full
 rw [show h.length+1=(h++[(32:UInt8)]).length by simp,show h++32::chk h=(h++[32])++chk h by simp,List.drop_left]
theorem JRd (h:Bs):(full h)[h.length]? = some 32:=by unfold full;simp
theorem JFb (n:Nat):(10:UInt8) ∉ Jl n:=fun h=>absurd (List.all_eq_true.1 (JDe n) 10 h) (by decide)
theorem JHJ {c:UInt8}(hc:c≠10){w:Nat}{x:Bs}(hx:(10:UInt8) ∉ x):(10:UInt8) ∉ pad c w x:=by
 unfold pad
 rw [List.mem_append]
 rintro (h|h)
 ·exact hc (List.mem_replicate.1 h).2.symm
 ·exact hx h
theorem JRU {h:Bs}(hh:(10:UInt8) ∉ h):(10:UInt8) ∉ full h:=by
 unfold full
 rw [List.mem_append,List.mem_cons]
 rintro (h1|h1|h1)
 ·exact hh h1
 ·exact absurd h1 (by decide)
 ·exact JFb _ h1
theorem JRV (m:Int):(10:UInt8) ∉ Y6 m:=by
 unfold Y6
 rw [List.mem_cons]
 rintro (h|h)
 ·exact absurd h (by decide)
 ·exact JHJ (by decide) (JFb _) h
theorem JRX (t:Tr):(10:UInt8) ∉ Qm t:=by
 unfold Qm
 simp only [List.mem_append,List.mem_cons]
 rintro (h|h|h|h|h)
 ·exact JHJ (by decide) (JFb _) h
 ·exact absurd h (by decide)
 ·exact JHJ (by decide) (JFb _) h
 ·exact absurd h (by decide)
 ·exact JHJ (by decide) (JFb _) h
theorem JR3 {l:List Sh}{x:Bs}(h:x∈ZK l):∃y,x=full y∧(10:UInt8) ∉ y∧y≠[]:=by
 unfold ZK at h
 obtain ⟨a,ha,hx⟩:=List.mem_flatten.1 h
 obtain ⟨s,_,rfl⟩:=List.mem_map.1 ha
 unfold JBq at hx
 rcases List.mem_cons.1 hx with e|e
 ·exact ⟨_,e,JRV _,by simp [Y6]⟩
 ·obtain ⟨t,_,rfl⟩:=List.mem_map.1 e
  exact ⟨_,rfl,JRX _,by simp [Qm]⟩
theorem JRW {l:List Sh}:∀x∈ZK l,(10:UInt8) ∉ x:=fun x h=>by
 obtain ⟨y,rfl,hy,_⟩:=JR3 h
 exact JRU hy
def JGh (l:List Sh)(t:Tr):List Sh:=match l.getLast? with
 |some x=>l.dropLast++[⟨x.meter,x.tries++[t]⟩]
 |none=>l
theorem JIL (l:List Sh)(x:Sh)(t:Tr):JGh (l++[x]) t=l++[⟨x.meter,x.tries++[t]⟩]:=by simp [JGh]
def JA1 (h:Bs):Option Int:=
 if h.length=7∧QF (dw 48 (h.drop 1))=true∧pad 48 6 (Jl (JZ (dw 48 (h.drop 1))))=h.drop 1 then some (JZ (dw 48 (h.drop 1))) else none
def pieces (h:Bs):Bs × Bs × Bs:=(h.take 6,(h.drop 7).take 7,(h.drop 15).take 7)
def JA6 (h:Bs):Option Tr:=
 if (h.length=22∧h[6]? = some 32∧h[14]? = some 32)∧(QF (dw 32 (pieces h).1)=true∧QF (dw 32 (pieces h).2.1)=true∧QF (dw 32 (pieces h).2.2)=true) ∧
  (pad 32 6 (Jl (JZ (dw 32 (pieces h).1)))=(pieces h).1∧pad 32 7 (Jl (JZ (dw 32 (pieces h).2.1)))=(pieces h).2.1∧pad 32 7 (Jl (JZ (dw 32 (pieces h).2.2)))=(pieces h).2.2) then
  some ⟨JZ (dw 32 (pieces h).1),JZ (dw 32 (pieces h).2.1),JZ (dw 32 (pieces h).2.2)⟩ else none
def JAE (own:Bs):Bool:=decide (3≤own.length)&&(decide (own[own.length-2]? = some 32)&&decide (chk (own.take (own.length-2))=own.drop (own.length-1)))
def Yx (l:List Sh)(own:Bs):Option (List Sh):=
 if JAE own=true then
  if own.head? = some 35 then (JA1 (own.take (own.length-2))).map fun m=>l++[⟨m,[]⟩]
  else if l=[] then none else (JA6 (own.take (own.length-2))).map fun t=>JGh l t
 else none
def ZJ (text:Bs):Option (List Bs):=if text=[] then some [] else if text.getLast? = some 10 then some (QX 10 text.dropLast) else none
def JC5 (text:Bs):Option (List Sh):=(ZJ text).bind fun ls=>ls.foldlM Yx []
def JBQ (text:Bs):Option (List Sh):=match JC5 text with
 |some l=>if Y9 l=0 then some l else none
 |none=>none
theorem JLl {h:Bs}(h0:h≠[]):JAE (full h)=true:=by
 have hl:=List.length_pos_iff.2 h0
 unfold JAE
 rw [JEJ,show h.length+2-2=h.length by omega,show h.length+2-1=h.length+1 by omega,JRd,JIv,JRe]
 simp;omega
theorem JQm {own:Bs}(h:JAE own=true):own=full (own.take (own.length-2)):=by
 unfold JAE at h
 simp only [Bool.and_eq_true,decide_eq_true_eq] at h
 obtain ⟨h1,h2,h3⟩:=h
 unfold full
 rw [h3]
 obtain ⟨hlt,he⟩:=List.getElem?_eq_some_iff.1 h2
 have:=List.take_append_drop (own.length-2) own
 rw [List.drop_eq_getElem_cons hlt,he,show own.length-2+1=own.length-1 by omega] at this
 exact this.symm
theorem JHU {text:Bs}{ls:List Bs}(h:ZJ text=some ls):text=ends 10 ls:=by
 unfold ZJ at h
 split at h
 ·next e=>cases h;rw [e];rfl
 ·split at h
  ·next h0 hl=>
   cases h
   rw [JG1]
   obtain ⟨l,rfl⟩:∃l,text=l++[10]:=by
    rw [List.getLast?_eq_some_iff] at hl
    exact hl
   simp
  ·cases h
theorem JMl {ls:List Bs}(h:∀l∈ls,(10:UInt8) ∉ l):ZJ (ends 10 ls)=some ls:=by
 unfold ZJ
 by_cases h0:ls=[]
 ·subst h0;rfl
 ·obtain ⟨a,b,rfl⟩:∃a b,ls=a++[b]:=⟨ls.dropLast,ls.getLast h0,(List.dropLast_concat_getLast h0).symm⟩
  have e:ends 10 (a++[b])=(ends 10 a++b)++[10]:=by rw [JEB,JAR,JL3];simp
  have hc:=JLr 10 (a++[b]) h
  rw [e] at hc ⊢
  rw [JQt] at hc
  rw [if_neg (by simp),if_pos (by simp),List.dropLast_concat,List.append_cancel_right hc]
theorem JIy {m:Int}(h0:0≤m)(h1:m≤999999):(Y6 m).length=7:=by
 unfold Y6
 rw [List.length_cons,JFp]
 exact JAV (by omega) (by omega)
theorem JNB {t:Tr}(h:ZB t=true):(pad 32 6 (Jl t.flow.toNat)).length=6∧(pad 32 7 (Jl t.pour.toNat)).length=7∧(pad 32 7 (Jl t.shown.toNat)).length=7:=by
 unfold ZB at h
 simp only [Bool.and_eq_true,ZI] at h
 exact ⟨JFp _ (JAV (by omega) (by omega)),JFp _ (JAV (by omega) (by omega)),JFp _ (JAV (by omega) (by omega))⟩
theorem JJv {t:Tr}(h:ZB t=true):(Qm t).length=22:=by
 obtain ⟨a,b,c⟩:=JNB h
 unfold Qm
 simp only [List.length_append,List.length_cons,a,b,c]
theorem JVB {a b c:Bs}{x y:UInt8}(ha:a.length=6)(hb:b.length=7)(hc:c.length=7)(r:Bs) :
  (a++x::(b++y::c)++r).take 6=a∧((a++x::(b++y::c)++r).drop 7).take 7=b∧((a++x::(b++y::c)++r).drop 15).take 7=c∧(a++x::(b++y::c)++r)[6]? = some x∧(a++x::(b++y::c)++r)[14]? = some y:=by
 have e1:a++x::(b++y::c)++r=a++(x::(b++y::c)++r):=by simp
 have e2:a++x::(b++y::c)++r=(a++[x])++(b++(y::c++r)):=by simp
 have e3:a++x::(b++y::c)++r=(a++[x]++b++[y])++(c++r):=by simp
 refine ⟨?_,?_,?_,?_,?_⟩
 ·rw [e1,List.take_left' ha]
 ·rw [e2,List.drop_left' (by simp [ha]),List.take_left' hb]
 ·rw [e3,List.drop_left' (by simp [ha,hb]),List.take_left' hc]
 ·rw [e1,List.getElem?_append_right (by omega),ha];rfl
 ·rw [show a++x::(b++y::c)++r=(a++[x]++b)++(y::(c++r)) by simp,List.getElem?_append_right (by simp [ha,hb]),show 14-(a++[x]++b).length=0 by simp [ha,hb]];rfl
theorem JSC {h:Bs}(hl:h.length=22)(h6:h[6]? = some 32)(h14:h[14]? = some 32):h=(pieces h).1++32::((pieces h).2.1++32::(pieces h).2.2):=by
 obtain ⟨l6,e6⟩:=List.getElem?_eq_some_iff.1 h6
 obtain ⟨l14,e14⟩:=List.getElem?_eq_some_iff.1 h14
 have a1:=List.take_append_drop 6 h
 have a2:=List.drop_eq_getElem_cons l6
 have a3:=List.take_append_drop 7 (h.drop 7)
 have a4:=List.drop_eq_getElem_cons l14
 rw [List.drop_drop] at a3
 have a5:(h.drop 15).take 7=h.drop 15:=List.take_of_length_le Za
 unfold pieces
 simp only
 rw [a5]
 rw [e6] at a2
 rw [e14] at a4
 simp only [Nat.reduceAdd] at a2 a3 a4
 rw [←a4,a3,←a2,a1]
theorem JR7 {m:Int}(h1:1≤m)(h2:m≤999999):JA1 (Y6 m)=some m:=by
 unfold JA1
 have e:(Y6 m).drop 1=pad 48 6 (Jl m.toNat):=rfl
 rw [e,JQ5 _ _ (by omega),JC8,if_pos ⟨JIy (by omega) h2,JBm (by omega),rfl⟩]
 congr 1;omega
theorem JR8 {h:Bs}{m:Int}(hh:h.head? = some 35)(e:JA1 h=some m):h=Y6 m:=by
 unfold JA1 at e
 split at e
 ·next hc=>
  simp only [Option.some.injEq] at e
  obtain ⟨h1,h2,h3⟩:=hc
  subst e
  unfold Y6
  rw [Int.toNat_natCast,h3]
  cases h with
  |nil=>simp at h1
  |cons a l=>simp at hh;subst hh;rfl
 ·cases e
theorem JVI {t:Tr}(h:ZB t=true):JA6 (Qm t)=some t:=by
 obtain ⟨a,b,c⟩:=JNB h
 obtain ⟨p1,p2,p3,p4,p5⟩:=JVB (x:=32) (y:=32) a b c []
 rw [List.append_nil] at p1 p2 p3 p4 p5
 have hp:pieces (Qm t)=(pad 32 6 (Jl t.flow.toNat),pad 32 7 (Jl t.pour.toNat),pad 32 7 (Jl t.shown.toNat)):=by unfold pieces Qm;rw [p1,p2,p3]
 have h':=h
 unfold ZB at h'
 simp only [Bool.and_eq_true,ZI] at h'
 unfold JA6
 rw [hp]
 simp only [JQ4,JC8]
 rw [if_pos ⟨⟨JJv h,p4,p5⟩,⟨JBm (by omega),JBm (by omega),JBm (by omega)⟩,by simp⟩]
 congr 1
 obtain ⟨x,y,z⟩:=t
 simp only at h' ⊢
 rw [Tr.mk.injEq]
 omega
theorem JVH {h:Bs}{t:Tr}(e:JA6 h=some t):h=Qm t:=by
 unfold JA6 at e
 split at e
 ·next hc=>
  simp only [Option.some.injEq] at e
  obtain ⟨⟨h1,h2,h3⟩,_,h7,h8,h9⟩:=hc
  subst e
  unfold Qm
  simp only [Int.toNat_natCast]
  rw [h7,h8,h9]
  exact JSC h1 h2 h3
 ·cases e
theorem JTu {t:Tr}:(Qm t).head?≠some 35:=by
 have hd:∀(n w:Nat) (r:Bs),(pad 32 w (Jl n)++r).head?≠some 35:=fun n w r h=>by
  unfold pad at h
  rw [List.append_assoc] at h
  rcases Nat.eq_zero_or_pos (w-(Jl n).length) with e|e
  ·rw [e] at h
   cases hx:Jl n with
   |nil=>exact absurd hx (JHv n)
   |cons a l=>
    rw [hx] at h
    simp at h
    have:=List.all_eq_true.1 (JDe n) a (by rw [hx];simp)
    subst h
    exact absurd this (by decide)
  ·obtain ⟨k,hk⟩:∃k,w-(Jl n).length=k+1:=⟨_,(Nat.succ_pred_eq_of_pos e).symm⟩
   rw [hk,List.replicate_succ] at h
   simp at h
 exact hd _ _ _
theorem JIu {h:Bs}(h0:h≠[]):(full h).head? = h.head? :=by
 cases h with
 |nil=>exact absurd rfl h0
 |cons a l=>rfl
section fold
variable {f:List Sh→Bs→Option (List Sh)}
theorem JMM (hT:∀l x t,ZB t=true→f (l++[x]) (full (Qm t))=some (l++[⟨x.meter,x.tries++[t]⟩]))(l:List Sh):∀(ts:List Tr) (x:Sh),ts.all ZB=true→(ts.map fun t=>full (Qm t)).foldlM f (l++[x])=some (l++[⟨x.meter,x.tries++ts⟩])
 |[],x,_=>by simp
 |t::ts,x,h=>by
  simp only [List.all_cons,Bool.and_eq_true] at h
  rw [List.map_cons,List.foldlM_cons,hT l x t h.1]
  show List.foldlM f _ _=_
  rw [JMM hT l ts _ h.2]
  simp
theorem JML (hH:∀l m,1≤m→m≤999999→f l (full (Y6 m))=some (l++[⟨m,[]⟩]))(hT:∀l x t,ZB t=true→f (l++[x]) (full (Qm t))=some (l++[⟨x.meter,x.tries++[t]⟩])) :
  ∀(ls l:List Sh),ls.all Ym=true→(ZK ls).foldlM f l=some (l++ls)
 |[],l,_=>by simp [ZK]
 |x::ls,l,h=>by
  simp only [List.all_cons,Bool.and_eq_true] at h
  have hx:=h.1
  unfold Ym at hx
  simp only [Bool.and_eq_true,ZI] at hx
  have e:ZK (x::ls)=full (Y6 x.meter)::((x.tries.map fun t=>full (Qm t))++ZK ls):=by simp [ZK,JBq]
  rw [e,List.foldlM_cons,hH l x.meter hx.1.1.1 hx.1.1.2]
  show List.foldlM f _ _=_
  rw [List.foldlM_append,JMM hT l x.tries _ hx.2]
  show List.foldlM f _ _=_
  rw [List.nil_append,JML hH hT ls _ h.2]
  simp
end fold
theorem JUw (l:List Sh)(m:Int)(h1:1≤m)(h2:m≤999999):Yx l (full (Y6 m))=some (l++[⟨m,[]⟩]):=by
 have h0:Y6 m≠[]:=by simp [Y6]
 unfold Yx
 rw [if_pos (JLl h0),if_pos (by rw [JIu h0];rfl),JEJ,show (Y6 m).length+2-2=(Y6 m).length by omega,JIv,JR7 h1 h2]
 rfl
theorem JUy (l:List Sh)(x:Sh)(t:Tr)(h:ZB t=true):Yx (l++[x]) (full (Qm t))=some (l++[⟨x.meter,x.tries++[t]⟩]):=by
 have h0:Qm t≠[]:=by simp [Qm]
 unfold Yx
 rw [if_pos (JLl h0),if_neg (by rw [JIu h0];exact JTu),if_neg (by simp),JEJ,show (Qm t).length+2-2=(Qm t).length by omega,JIv,JVI h]
 show some (JGh _ t)=_
 rw [JIL]
theorem JU6 {l:List Sh}(h:Y9 l=0):JC5 (YZ l)=some l:=by
 obtain ⟨_,hok,_⟩:=JCB h
 unfold JC5 YZ
 rw [JMl JRW]
 show List.foldlM Yx [] _=_
 rw [JML JUw JUy l [] hok];rfl
theorem JUx {l l':List Sh}{own:Bs}(h:Yx l own=some l'):ZK l'=ZK l++[own]:=by
 unfold Yx at h
 split at h
 ·next hc=>
  have hf:=JQm hc
  split at h
  ·next hh=>
   obtain ⟨m,hm,rfl⟩:=Option.map_eq_some_iff.1 h
   have hn:own.take (own.length-2)≠[]:=by
    intro e
    rw [e] at hf
    rw [hf] at hh
    simp [full] at hh
   have hh':(own.take (own.length-2)).head? = some 35:=by rw [←JIu hn,←hf];exact hh
   rw [JR8 hh' hm] at hf
   rw [JHT]
   simp [ZK,JBq,←hf]
  ·split at h
   ·cases h
   ·next hn=>
    obtain ⟨t,ht,rfl⟩:=Option.map_eq_some_iff.1 h
    rw [JVH ht] at hf
    obtain ⟨a,b,rfl⟩:∃a b,l=a++[b]:=⟨l.dropLast,l.getLast hn,(List.dropLast_concat_getLast hn).symm⟩
    rw [JIL,JHT,JHT,List.append_assoc]
    simp [ZK,JBq,←hf]
 ·cases h
theorem JMK:∀(ls:List Bs) (l l':List Sh),ls.foldlM Yx l=some l' → ZK l'=ZK l++ls
 |[],l,l',h=>by simp at h;subst h;simp
 |x::ls,l,l',h=>by
  rw [List.foldlM_cons] at h
  obtain ⟨l1,h1,h2⟩:=Option.bind_eq_some_iff.1 h
  rw [JMK ls l1 l' h2,JUx h1];simp
theorem JU4 {text:Bs}{l:List Sh}(h:JC5 text=some l):YZ l=text:=by
 unfold JC5 at h
 obtain ⟨ls,h1,h2⟩:=Option.bind_eq_some_iff.1 h
 have:=JMK ls [] l h2
 unfold YZ
 rw [this,JHU h1];rfl
theorem JTC {text:Bs}{l:List Sh}:JBQ text=some l↔Y9 l=0∧YZ l=text:=by
 unfold JBQ
 constructor
 ·intro h
  split at h
  ·next hs=>
   split at h
   ·next hc=>cases h;exact ⟨hc,JU4 hs⟩
   ·cases h
  ·cases h
 ·rintro ⟨h1,h2⟩
  subst h2
  rw [JU6 h1]
  simp only
  rw [if_pos h1]
end Go.Bk
namespace Go.Bk
structure Pg where
 house:Int
 reads:List Int
 deriving DecidableEq,Inhabited
def Y2:List Int→Bool
 |a::b::l=>decide (a≤b)&&Y2 (b::l)
 |_=>true
def YW (x:Pg):Bool:=Qj x.house 0 9999&&decide (x.reads.length≤16)&&x.reads.all (fun n=>Qj n 0 1073741824)&&Y2 x.reads
def Y1 (l:List Pg):Int:=Zp l.length 32 (l.all YW) (Qv (l.map Pg.house))
def Jz:List Int→List Int
 |a::b::l=>(b-a)::Jz (b::l)
 |_=>[]
def JCJ (out:List (Nat × Int))(d:Int):List (Nat × Int):=match out.getLast? with
 |some (n,e)=>if e=d then out.dropLast++[(n+1,e)] else out++[(1,d)]
 |none=>[(1,d)]
def runs (ds:List Int):List (Nat × Int):=ds.foldl JCJ []
def Zq (g:Nat × Int):Bs:=if g.1=1 then Jl g.2.toNat else Jl g.1++120::Jl g.2.toNat
def Yq (x:Pg):List Bs:=Jl x.house.toNat::match x.reads with
 |[]=>[]
 |r::_=>Jl r.toNat::(runs (Jz x.reads)).map Zq
def blanks:List Bs→Bs
 |[]=>[]
 |[a]=>a
 |a::b::l=>a++32::blanks (b::l)
def Zv (x:Pg):Bs:=blanks (Yq x)
def Yw (l:List Pg):Bs:=ends 10 (l.map Zv)
def JBy (l:List Pg):Bs:=if Y1 l=0 then Yw l else []
theorem JS6 (a b:List Pg):Yw (a++b)=Yw a++Yw b:=by unfold Yw;rw [List.map_append,JEB]
theorem JD4 (a:Bs){l:List Bs}(h:l≠[]):blanks (a::l)=a++32::blanks l:=by
 cases l with
 |nil=>exact absurd rfl h
 |cons b l=>rfl
theorem JLs:∀(ws:List Bs),ws≠[]→(∀w∈ws,(32:UInt8) ∉ w)→QX 32 (blanks ws)=ws
 |[],h,_=>absurd rfl h
 |[a],_,h=>JDK 32 a (h a (by simp))
 |a::b::l,_,h=>by
  rw [JD4 a (by simp),JDJ 32 a _ (h a (by simp)),JLs (b::l) (by simp) (fun w hw=>h w (by simp [hw]))]
theorem JPH (l:Bs):blanks (QX 32 l)=l:=by
 have h:∀ws:List Bs,ws≠[]→ends 32 ws=blanks ws++[32]:=by
  intro ws
  induction ws with
  |nil=>exact fun h=>absurd rfl h
  |cons a ws ih=>
   intro _
   by_cases h0:ws=[]
   ·subst h0;simp [ends,blanks]
   ·rw [JAR,ih h0,JD4 a h0];simp
 exact List.append_cancel_right ((h _ (JD8 32 l)).symm.trans (JG1 32 l))
theorem JI2:∀(ws:List Bs),Lib.join ws [32]=blanks ws
 |[]=>rfl
 |[a]=>Lib.join_one a _
 |a::b::l=>by
  rw [JD4 a (by simp),←JI2 (b::l),Lib.join_cons,Lib.join_cons]
  simp [Lib.joinTail]
theorem JIp (n:Nat):(120:UInt8) ∉ Jl n:=fun h=>absurd (List.all_eq_true.1 (JDe n) 120 h) (by decide)
theorem JRq {c:UInt8}(hc:Yb c=false)(hx:c≠120)(g:Nat × Int):c ∉ Zq g:=by
 have ht:∀n,c ∉ Jl n:=fun n h=>by rw [List.all_eq_true.1 (JDe n) c h] at hc;cases hc
 unfold Zq
 split
 ·exact ht _
 ·simp only [List.mem_append,List.mem_cons]
  rintro (h|h|h)
  ·exact ht _ h
  ·exact hx h
  ·exact ht _ h
theorem JOp {c:UInt8}(hc:Yb c=false)(hx:c≠120)(x:Pg):∀w∈Yq x,c ∉ w:=by
 have ht:∀n,c ∉ Jl n:=fun n h=>by rw [List.all_eq_true.1 (JDe n) c h] at hc;cases hc
 intro w hw
 unfold Yq at hw
 rcases List.mem_cons.1 hw with h|h
 ·subst h;exact ht _
 ·split at h
  ·cases h
  ·rcases List.mem_cons.1 h with h|h
   ·subst h;exact ht _
   ·obtain ⟨g,_,rfl⟩:=List.mem_map.1 h;exact JRq hc hx g
theorem JK9 {c:UInt8}(hc:c≠32):∀(ws:List Bs),(∀w∈ws,c ∉ w)→c ∉ blanks ws
 |[],_=>by simp [blanks]
 |[a],h=>h a (by simp)
 |a::b::l,h=>by
  rw [JD4 a (by simp),List.mem_append,List.mem_cons]
  rintro (h1|h1|h1)
  ·exact h a (by simp) h1
  ·exact hc h1
  ·exact JK9 hc (b::l) (fun w hw=>h w (by simp [hw])) h1
theorem JS2 (x:Pg):(10:UInt8) ∉ Zv x:=JK9 (by decide) _ (JOp (by decide) (by decide) x)
theorem JS7 {l:List Pg}:∀y∈l.map Zv,(10:UInt8) ∉ y:=fun y h=>by
 obtain ⟨x,_,rfl⟩:=List.mem_map.1 h;exact JS2 x
theorem JVc (x:Pg):Yq x≠[]:=by unfold Yq;simp
theorem JQw (x:Pg):QX 32 (Zv x)=Yq x:=JLs _ (JVc x) (JOp (by decide) (by decide) x)
def ZV (l:List Int):Int:=l.getLast?.getD 0
def J5 (d:Int):Nat→List Int→List Int
 |0,r=>r
 |n+1,r=>J5 d n (r++[ZV r+d])
theorem JMb (l:List Int)(x:Int):ZV (l++[x])=x:=by simp [ZV]
theorem Z1 (d:Int):∀(n:Nat) (r:List Int),(J5 d n r).length=r.length+n
 |0,_=>rfl
 |n+1,r=>by rw [J5,Z1 d n];simp;omega
theorem JK1 (d:Int)(n:Nat){r:List Int}(h:r≠[]):J5 d n r≠[]:=by
 have:=Z1 d n r
 have:=List.length_pos_iff.2 h
 exact List.length_pos_iff.1 (by omega)
theorem JCa (d:Int):∀(n:Nat) (r:List Int),J5 d (n+1) r=J5 d n r++[ZV (J5 d n r)+d]
 |0,r=>rfl
 |n+1,r=>by rw [J5,JCa d n,J5]
theorem JEA:∀(r:List Int) (x:Int),r≠[]→Jz (r++[x])=Jz r++[x-ZV r]
 |[],_,h=>absurd rfl h
 |[a],x,_=>by simp [Jz,ZV]
 |a::b::l,x,_=>by
  have:=JEA (b::l) x (by simp)
  rw [List.cons_append] at this
  simp only [List.cons_append,Jz,this]
  simp [ZV]
theorem JBj:∀(r:List Int),(Jz r).length=r.length-1
 |[]=>rfl
 |[_]=>rfl
 |a::b::l=>by simp [Jz,JBj (b::l)]
theorem JIg (d:Int):∀(n:Nat) (r:List Int),r≠[]→Jz (J5 d n r)=Jz r++List.replicate n d
 |0,r,_=>by simp [J5]
 |n+1,r,h=>by
  rw [J5,JIg d n _ (by simp),JEA r _ h,List.replicate_succ]
  simp;omega
def good:List (Nat × Int)→Prop
 |[]=>True
 |[a]=>1≤a.1
 |a::b::l=>1≤a.1∧a.2≠b.2∧good (b::l)
theorem JEX (gs:List (Nat × Int))(n:Nat)(e d:Int):JCJ (gs++[(n,e)]) d=if e=d then gs++[(n+1,e)] else gs++[(n,e),(1,d)]:=by
 unfold JCJ;simp
theorem JEL:∀(gs:List (Nat × Int)) (g:Nat × Int),good (gs++[g])↔good gs∧1≤g.1∧∀h,gs.getLast? = some h→h.2≠g.2
 |[],g=>by simp [good]
 |[a],g=>by
  simp only [List.cons_append,List.nil_append,good,List.getLast?_singleton,Option.some.injEq,forall_eq']
  constructor
  ·rintro ⟨h1,h2,h3⟩;exact ⟨h1,h3,h2⟩
  ·rintro ⟨h1,h2,h3⟩;exact ⟨h1,h3,h2⟩
 |a::b::l,g=>by
  have ih:=JEL (b::l) g
  simp only [List.cons_append] at ih ⊢
  rw [good,good,ih]
  simp only [List.getLast?_cons_cons]
  constructor
  ·rintro ⟨h1,h2,h3,h4,h5⟩;exact ⟨⟨h1,h2,h3⟩,h4,h5⟩
  ·rintro ⟨⟨h1,h2,h3⟩,h4,h5⟩;exact ⟨h1,h2,h3,h4,h5⟩
def spread (gs:List (Nat × Int)):List Int:=(gs.map fun g=>List.replicate g.1 g.2).flatten
theorem JEi (gs:List (Nat × Int))(g:Nat × Int):spread (gs++[g])=spread gs++List.replicate g.1 g.2:=by simp [spread]
theorem JJ1 (ds:List Int)(d:Int):runs (ds++[d])=JCJ (runs ds) d:=by simp [runs]
theorem JNr (ds:List Int):good (runs ds)∧spread (runs ds)=ds:=by
 induction ds using JEh with
 |nil=>exact ⟨trivial,rfl⟩
 |snoc ds d ih=>
  obtain ⟨h1,h2⟩:=ih
  rw [JJ1]
  by_cases h0:runs ds=[]
  ·rw [h0] at h2 ⊢
   rw [←h2]
   exact ⟨Nat.le_refl 1,rfl⟩
  ·obtain ⟨gs,⟨n,e⟩,hg⟩:∃a b,runs ds=a++[b]:=⟨_,_,(List.dropLast_concat_getLast h0).symm⟩
   rw [hg] at h1 h2 ⊢
   rw [JEX]
   rw [JEi] at h2
   have hs:=(JEL gs (n,e)).1 h1
   split
   ·next he=>
    subst he
    refine ⟨(JEL gs (n+1,e)).2 ⟨hs.1,by simp,hs.2.2⟩,?_⟩
    rw [JEi,←h2,List.append_assoc]
    simp [List.replicate_succ']
   ·next he=>
    rw [show gs++[(n,e),(1,d)]=(gs++[(n,e)])++[(1,d)] by simp]
    refine ⟨(JEL _ _).2 ⟨h1,Nat.le_refl 1,fun h hh=>?_⟩,?_⟩
    ·simp at hh;subst hh;exact he
    ·rw [JEi,JEi,h2];rfl
theorem JNM (gs:List (Nat × Int))(d:Int)(h:∀g,gs.getLast? = some g→g.2≠d):∀n,(List.replicate (n+1) d).foldl JCJ gs=gs++[(n+1,d)]
 |0=>by
  show JCJ gs d=_
  by_cases h0:gs=[]
  ·subst h0;rfl
  ·obtain ⟨a,⟨k,e⟩,rfl⟩:∃a b,gs=a++[b]:=⟨_,_,(List.dropLast_concat_getLast h0).symm⟩
   have he:=h (k,e) (by simp)
   rw [JEX,if_neg he];simp
 |n+1=>by
  rw [List.replicate_succ',List.foldl_append,JNM gs d h n]
  show JCJ (gs++[(n+1,d)]) d=_
  rw [JEX,if_pos rfl]
theorem JT8 (gs:List (Nat × Int))(h:good gs):runs (spread gs)=gs:=by
 induction gs using JEh with
 |nil=>rfl
 |snoc gs g ih=>
  obtain ⟨h1,h2,h3⟩:=(JEL gs g).1 h
  rw [JEi]
  unfold runs
  rw [List.foldl_append]
  have:=ih h1
  unfold runs at this
  rw [this]
  obtain ⟨n,d⟩:=g
  obtain ⟨k,rfl⟩:∃k,n=k+1:=⟨n-1,by simp at h2;omega⟩
  exact JNM gs d h3 k
def JAc (w:Bs):Option (Nat × Int):=match QX 120 w with
 |[a]=>if QF a=true then some (1,JZ a) else none
 |a::r=>if (QF a=true∧QF (w.drop (a.length+1))=true)∧2≤JZ a∧JZ a≤16 then some (JZ a,JZ (w.drop (a.length+1))) else none
 |[]=>none
structure St where
 reads:List Int
 last:Nat × Int
def ZO (s:St)(w:Bs):Option St:=(JAc w).bind fun g=>if (s.last.1=0∨s.last.2≠g.2)∧s.reads.length+g.1≤16 then some ⟨J5 g.2 g.1 s.reads,g⟩ else none
def Yv (line:Bs):Option Pg:=match QX 32 line with
 |[]=>none
 |[h]=>if QF h=true then some ⟨JZ h,[]⟩ else none
 |h::r::ws=>if QF h=true∧QF r=true then (ws.foldlM ZO ⟨[(JZ r:Int)],(0,0)⟩).map fun s=>⟨JZ h,s.reads⟩ else none
def JDd (text:Bs):Option (List Pg):=(ZJ text).bind fun ls=>ls.mapM Yv
def JA3 (text:Bs):Option (List Pg):=(JDd text).bind fun l=>if Y1 l=0 then some l else none
theorem JRl {w:Bs}{g:Nat × Int}(h:JAc w=some g):w=Zq g∧1≤g.1:=by
 unfold JAc at h
 split at h
 ·next a ha=>
  split at h
  ·next hf=>
   cases h
   have:w=a:=by
    have:=JG1 120 w
    rw [ha,JAR,JL3] at this
    exact (List.append_cancel_right this).symm
   subst this
   exact ⟨by unfold Zq;simp [JEG hf],Nat.le_refl 1⟩
  ·cases h
 ·next a r hne ha=>
  split at h
  ·next hc=>
   cases h
   obtain ⟨⟨h1,h2⟩,h3,h4⟩:=hc
   have hw:w=a++120::w.drop (a.length+1):=by
    have:=JG1 120 w
    rw [ha,JAR] at this
    have hr:r≠[]:=fun e=>hne e
    have hl:(a++120::ends 120 r).length=w.length+1:=by rw [this];simp
    have hp:1≤(ends 120 r).length:=by
     cases r with
     |nil=>exact absurd rfl hr
     |cons b r=>rw [JAR];simp;omega
    simp at hl
    have h1:(w++[120]).take (a.length+1)=a++[120]:=by
     rw [←this,show a++120::ends 120 r=(a++[120])++ends 120 r by simp,List.take_left' (by simp)]
    have h2:w.take (a.length+1)=a++[120]:=by rw [←h1,List.take_append_of_le_length (by omega)]
    have:=List.take_append_drop (a.length+1) w
    rw [h2] at this
    rw [←this];simp
   refine ⟨?_,by simp;omega⟩
   unfold Zq
   simp only [Int.toNat_natCast]
   rw [if_neg (by omega),JEG h1,JEG h2];exact hw
  ·cases h
 ·cases h
theorem JRm {n:Nat}{d:Int}(h1:1≤n)(h2:n≤16)(h3:0≤d)(h4:d<10^12):JAc (Zq (n,d))=some (n,d):=by
 have hd:((d.toNat:Nat):Int)=d:=Int.toNat_of_nonneg h3
 unfold JAc Zq
 by_cases hn:n=1
 ·subst hn
  simp only [if_true]
  rw [JDK 120 _ (JIp _)]
  simp only
  rw [if_pos (JBm (by omega)),JC8,hd]
 ·simp only
  rw [if_neg hn,JDJ 120 _ _ (JIp _),JDK 120 _ (JIp _)]
  simp only
  have e:(Jl n++120::Jl d.toNat).drop ((Jl n).length+1)=Jl d.toNat:=by
   rw [show Jl n++120::Jl d.toNat=(Jl n++[120])++Jl d.toNat by simp,List.drop_left' (by simp)]
  rw [e,JC8,JC8,if_pos ⟨⟨JBm (by omega),JBm (by omega)⟩,by omega,h2⟩,hd]
theorem JEK:∀(gs:List (Nat × Int)),good gs→∀g∈gs,1≤g.1
 |[],_,_,h=>by cases h
 |[a],h,g,hg=>by simp at hg;subst hg;exact h
 |a::b::l,h,g,hg=>by
  rcases List.mem_cons.1 hg with e|e
  ·subst e;exact h.1
  ·exact JEK (b::l) h.2.2 g e
theorem JOo {r0:Int}:∀(ws:List Bs) (s s':St) (gs:List (Nat × Int)),good gs→s.reads≠[]→s.reads.head? = some r0→Jz s.reads=spread gs→(s.last=(0,0)∧gs=[]∨gs.getLast? = some s.last) →
  ws.foldlM ZO s=some s' → ∃gs',good gs' ∧ s'.reads≠[]∧s'.reads.head? = some r0∧Jz s'.reads=spread gs' ∧ gs'.map Zq=gs.map Zq++ws
 |[],s,s',gs,hg,h0,hh,hd,_,h=>by simp at h;subst h;exact ⟨gs,hg,h0,hh,hd,by simp⟩
 |w::ws,s,s',gs,hg,h0,hh,hd,hl,h=>by
  rw [List.foldlM_cons] at h
  obtain ⟨s1,h1,h2⟩:=Option.bind_eq_some_iff.1 h
  unfold ZO at h1
  obtain ⟨g,hgw,h3⟩:=Option.bind_eq_some_iff.1 h1
  split at h3
  ·next hc=>
   cases h3
   obtain ⟨hw,hn⟩:=JRl hgw
   have hg':good (gs++[g]):=(JEL gs g).2 ⟨hg,hn,fun k hk=>by
    rcases hl with ⟨_,e⟩|e
    ·subst e;cases hk
    ·rw [e] at hk
     cases hk
     rcases hc.1 with hz|hz
     ·have:=JEK gs hg s.last (List.mem_of_getLast? e);omega
     ·exact hz⟩
   have hh':(J5 g.2 g.1 s.reads).head? = some r0:=by
    have:∀(n:Nat) (r:List Int),r.head? = some r0→(J5 g.2 n r).head? = some r0:=by
     intro n
     induction n with
     |zero=>exact fun r h=>h
     |succ n ih=>intro r h;rw [J5];apply ih;cases r with
      |nil=>cases h
      |cons a l=>exact h
    exact this _ _ hh
   obtain ⟨gs',a1,a2,a3,a4,a5⟩:=JOo ws _ s' (gs++[g]) hg' (JK1 _ _ h0) hh' (by rw [JIg _ _ _ h0,hd,JEi]) (.inr (by simp)) h2
   exact ⟨gs',a1,a2,a3,a4,by rw [a5,hw];simp⟩
  ·cases h3
theorem JS3 {line:Bs}{x:Pg}(h:Yv line=some x):line=Zv x:=by
 unfold Yv at h
 rw [←JPH line]
 unfold Zv
 split at h
 ·cases h
 ·next a ha=>
  split at h
  ·next hf=>cases h;rw [ha];unfold Yq;simp [JEG hf]
  ·cases h
 ·next a r ws ha=>
  split at h
  ·next hf=>
   obtain ⟨s,hs,rfl⟩:=Option.map_eq_some_iff.1 h
   obtain ⟨gs,h1,h2,h3,h4,h5⟩:=JOo (r0:=(JZ r:Int)) ws _ s [] trivial (by simp) rfl rfl (.inl ⟨rfl,rfl⟩) hs
   rw [ha]
   unfold Yq
   cases hr:s.reads with
   |nil=>exact absurd hr h2
   |cons b l=>
    rw [hr] at h3 h4
    simp only [List.head?_cons,Option.some.injEq] at h3
    rw [←hr] at h4
    simp only [hr,h3,Int.toNat_natCast,JEG hf.1,JEG hf.2]
    rw [←h3,←hr,h4,JT8 gs h1,h5]
    rfl
  ·cases h
theorem JMr:∀(ls:List Bs) (l:List Pg),ls.mapM Yv=some l→ls=l.map Zv
 |[],l,h=>by simp at h;subst h;rfl
 |x::ls,l,h=>by
  rw [List.mapM_cons] at h
  obtain ⟨p,h1,h2⟩:=Option.bind_eq_some_iff.1 h
  obtain ⟨ps,h3,h4⟩:=Option.bind_eq_some_iff.1 h2
  simp at h4;subst h4
  rw [List.map_cons,←JS3 h1,←JMr ls ps h3]
theorem JU3 {text:Bs}{l:List Pg}(h:JDd text=some l):Yw l=text:=by
 unfold JDd at h
 obtain ⟨ls,h1,h2⟩:=Option.bind_eq_some_iff.1 h
 unfold Yw
 rw [←JMr ls l h2,←JHU h1]
theorem JTi:∀(gs:List (Nat × Int)) (r r':List Int),r≠[]→(∃t,r'=r++t)→Jz r'=Jz r++spread gs→gs.foldl (fun a g=>J5 g.2 g.1 a) r=r':=by
 have key:∀(t:List Int) (r:List Int) ,r≠[]→∀ds,Jz (r++t)=Jz r++ds→t.length=ds.length:=by
  intro t r h0 ds h
  have:=congrArg List.length h
  rw [List.length_append,JBj,JBj,List.length_append] at this
  have:=List.length_pos_iff.2 h0
  omega
 have one:∀(d:Int) (n:Nat) (r t:List Int),r≠[]→∀ds,Jz (r++t)=Jz r++(List.replicate n d++ds)→∃t',r++t=J5 d n r++t':=by
  intro d n
  induction n with
  |zero=>exact fun r t _ ds _=>⟨t,rfl⟩
  |succ n ih=>
   intro r t h0 ds h
   cases t with
   |nil=>have:=key [] r h0 _ h;simp at this;omega
   |cons x t=>
    have e:r++x::t=(r++[x])++t:=by simp
    have hx:x-ZV r=d:=by
     have h':=h
     rw [e] at h'
     have hpre:∀(t:List Int) (q:List Int),q≠[]→∃z,Jz (q++t)=Jz q++z:=by
      intro t
      induction t with
      |nil=>exact fun q _=>⟨[],by simp⟩
      |cons y t ih2=>
       intro q hq
       obtain ⟨z,hz⟩:=ih2 (q++[y]) (by simp)
       refine ⟨(y-ZV q)::z,?_⟩
       rw [show q++y::t=(q++[y])++t by simp,hz,JEA q y hq];simp
     obtain ⟨z,hz⟩:=hpre t (r++[x]) (by simp)
     rw [hz,JEA r x h0,List.append_assoc] at h'
     have:=List.append_cancel_left h'
     rw [List.replicate_succ] at this
     simp at this
     exact this.1
    have hr:r++[x]=r++[ZV r+d]:=by congr 2;omega
    rw [e]
    have:=ih (r++[x]) t (by simp) ds (by
     rw [←e,h,JEA r x h0,hx,List.replicate_succ];simp)
    rw [J5,←hr]
    exact this
 intro gs
 induction gs with
 |nil=>
  intro r r' h0 ⟨t,ht⟩ h
  subst ht
  have:=key t r h0 [] (by simpa [spread] using h)
  have:t=[]:=List.eq_nil_of_length_eq_zero this
  subst this;simp
 |cons g gs ih=>
  intro r r' h0 ⟨t,ht⟩ h
  subst ht
  have hsp:spread (g::gs)=List.replicate g.1 g.2++spread gs:=by simp [spread]
  rw [hsp] at h
  obtain ⟨t',ht'⟩:=one g.2 g.1 r t h0 _ h
  rw [List.foldl_cons]
  refine ih (J5 g.2 g.1 r) _ (JK1 _ _ h0) ⟨t',ht'⟩ ?_
  rw [h,JIg _ _ _ h0,List.append_assoc]
theorem JOC:∀(r:List Int),Y2 r=true→∀d∈Jz r,0≤d
 |[],_,_,h=>by cases h
 |[_],_,_,h=>by cases h
 |a::b::l,hs,d,h=>by
  simp only [Y2,Bool.and_eq_true,decide_eq_true_eq] at hs
  simp only [Jz] at h
  rcases List.mem_cons.1 h with e|e
  ·subst e;omega
  ·exact JOC (b::l) hs.2 d e
theorem JLx:∀(r:List Int),(∀n∈r,Qj n 0 1073741824=true)→∀d∈Jz r,d≤1073741824
 |[],_,_,h=>by cases h
 |[_],_,_,h=>by cases h
 |a::b::l,hs,d,h=>by
  have ha:=ZI.1 (hs a (by simp))
  have hb:=ZI.1 (hs b (by simp))
  simp only [Jz] at h
  rcases List.mem_cons.1 h with e|e
  ·subst e;omega
  ·exact JLx (b::l) (fun n hn=>hs n (by simp [hn])) d e
theorem JUv {gs:List (Nat × Int)}(hg:good gs){g:Nat × Int}(h:g∈gs):g.2∈spread gs:=by
 have:=JEK gs hg g h
 unfold spread
 exact List.mem_flatten.2 ⟨_,List.mem_map.2 ⟨g,h,rfl⟩,List.mem_replicate.2 ⟨by omega,rfl⟩⟩
def Jn (gs:List (Nat × Int)):Nat:=(gs.map Prod.fst).sum
theorem JOF (gs:List (Nat × Int)):(spread gs).length=Jn gs:=by
 induction gs with
 |nil=>rfl
 |cons g gs ih=>simp only [spread,Jn,List.map_cons,List.flatten_cons,List.length_append,List.length_replicate,List.sum_cons] at ih ⊢;omega
structure JOs (x:Pg) (r:Int) (gs:List (Nat × Int)):Prop where
 good:good gs
 eq:runs (Jz x.reads)=gs
 reads:gs.foldl (fun a g=>J5 g.2 g.1 a) [r]=x.reads
 by0:∀g∈gs,0≤g.2∧g.2≤1073741824
 len:1+Jn gs≤16
theorem JFr {x:Pg}(hx:YW x=true){r:Int}{t:List Int}(hr:x.reads=r::t):JOs x r (runs (Jz x.reads)):=by
 unfold YW at hx
 simp only [Bool.and_eq_true,decide_eq_true_eq] at hx
 obtain ⟨⟨⟨_,h2⟩,h3⟩,h4⟩:=hx
 obtain ⟨g1,g2⟩:=JNr (Jz x.reads)
 have h3':=List.all_eq_true.1 h3
 refine ⟨g1,rfl,JTi _ [r] x.reads (by simp) ⟨t,by rw [hr];rfl⟩ (by rw [g2];rfl),fun g hg=>?_,?_⟩
 ·have hm:g.2∈Jz x.reads:=by
   have:=JUv g1 hg
   rwa [g2] at this
  exact ⟨JOC _ h4 _ hm,JLx _ h3' _ hm⟩
 ·have:=JOF (runs (Jz x.reads))
  rw [g2,JBj] at this
  rw [hr] at this h2 ⊢
  simp at this h2
  omega
theorem JOn:∀(gs:List (Nat × Int)) (s:St),good gs→(∀g∈gs,0≤g.2∧g.2≤1073741824)→s.reads.length+Jn gs≤16→(∀g,gs.head? = some g→s.last.1=0∨s.last.2≠g.2) →
  ∃q,(gs.map Zq).foldlM ZO s=some ⟨gs.foldl (fun a g=>J5 g.2 g.1 a) s.reads,q⟩
 |[],s,_,_,_,_=>⟨s.last,rfl⟩
 |(n,d)::gs,s,hg,h0,hl,hd=>by
  have hn:1≤n:=JEK _ hg (n,d) (by simp)
  have hb:=h0 (n,d) (by simp)
  have ht:Jn ((n,d)::gs)=n+Jn gs:=by simp [Jn]
  rw [ht] at hl
  have e:ZO s (Zq (n,d))=some ⟨J5 d n s.reads,(n,d)⟩:=by
   unfold ZO
   rw [JRm hn (by omega) hb.1 (by simp at hb;omega)]
   show (if _ then _ else _)=_
   rw [if_pos ⟨hd (n,d) rfl,by simp;omega⟩]
  have hg':good gs:=by
   cases gs with
   |nil=>trivial
   |cons b l=>exact hg.2.2
  obtain ⟨q,hq⟩:=JOn gs ⟨J5 d n s.reads,(n,d)⟩ hg' (fun g hm=>h0 g (by simp [hm])) (by simp only [Z1];omega) (fun g hh=>by
   cases gs with
   |nil=>cases hh
   |cons b l=>simp at hh;subst hh;exact .inr hg.2.1)
  refine ⟨q,?_⟩
  rw [List.map_cons,List.foldlM_cons,e]
  exact hq
theorem JS4 {x:Pg}(h:YW x=true):Yv (Zv x)=some x:=by
 have h':=h
 unfold YW at h'
 simp only [Bool.and_eq_true,decide_eq_true_eq,ZI] at h'
 obtain ⟨⟨⟨h1,h2⟩,h3⟩,h4⟩:=h'
 have hh:((x.house.toNat:Nat):Int)=x.house:=Int.toNat_of_nonneg h1.1
 unfold Yv
 rw [JQw]
 unfold Yq
 cases hr:x.reads with
 |nil=>
  simp only
  rw [if_pos (JBm (by omega)),JC8,hh,←hr]
 |cons r t=>
  have hp:=JFr h hr
  have hr0:=ZI.1 (List.all_eq_true.1 h3 r (by rw [hr];simp))
  have hrn:((r.toNat:Nat):Int)=r:=Int.toNat_of_nonneg hr0.1
  simp only
  rw [if_pos ⟨JBm (by omega),JBm (by omega)⟩,JC8,JC8,hh,hrn,←hr]
  obtain ⟨q,hq⟩:=JOn (runs (Jz x.reads)) ⟨[r],(0,0)⟩ hp.good hp.by0 (by have:=hp.len;simp;omega) (fun _ _=>.inl rfl)
  rw [hq,hp.reads]
  rfl
theorem JU5 {l:List Pg}(h:Y1 l=0):JDd (Yw l)=some l:=by
 have hok:=(JCB h).2.1
 unfold JDd Yw
 rw [JMl JS7]
 show List.mapM Yv _=_
 clear h
 induction l with
 |nil=>rfl
 |cons x l ih=>
  simp only [List.all_cons,Bool.and_eq_true] at hok
  rw [List.map_cons,List.mapM_cons,JS4 hok.1,ih hok.2];rfl
theorem JS9 {text:Bs}{l:List Pg}:JA3 text=some l↔Y1 l=0∧Yw l=text:=by
 unfold JA3
 constructor
 ·intro h
  obtain ⟨l',h1,h2⟩:=Option.bind_eq_some_iff.1 h
  split at h2
  ·next hc=>cases h2;exact ⟨hc,JU3 h1⟩
  ·cases h2
 ·rintro ⟨h1,h2⟩
  subst h2
  rw [JU5 h1]
  show (if _ then _ else _)=_
  rw [if_pos h1]
end Go.Bk
namespace Go.Bk
abbrev Bits:=List Bool
def Jc:Nat→Nat→Bits
 |0,_=>[]
 |k+1,n=>Jc k (n / 2)++[n%2==1]
def QB (s:Bits):Nat:=s.foldl (fun n b=>2*n+b.toNat) 0
theorem Yf:∀(k n:Nat),(Jc k n).length=k
 |0,_=>rfl
 |k+1,n=>by simp [Jc,Yf k]
theorem JC7 (s:Bits)(b:Bool):QB (s++[b])=2*QB s+b.toNat:=by simp [QB]
theorem JHt (n:Nat):(n%2==1).toNat=n%2:=by
 rcases Nat.mod_two_eq_zero_or_one n with h|h<;>rw [h]<;>rfl
theorem JA9:∀(k n:Nat),n<2^k→QB (Jc k n)=n
 |0,n,h=>by simp at h;subst h;rfl
 |k+1,n,h=>by
  rw [Jc,JC7,JA9 k (n / 2) (by rw [Nat.pow_succ] at h;omega),JHt];omega
theorem JBT (s:Bits):QB s<2^s.length:=by
 induction s using JEh with
 |nil=>simp [QB]
 |snoc s b ih=>
  rw [JC7,List.length_append,List.length_singleton,Nat.pow_succ]
  have:b.toNat≤1:=by cases b<;>decide
  omega
theorem JMy (s:Bits):Jc s.length (QB s)=s:=by
 induction s using JEh with
 |nil=>rfl
 |snoc s b ih=>
  rw [List.length_append,List.length_singleton,Jc,JC7]
  have h1:(2*QB s+b.toNat) / 2=QB s:=by cases b<;>simp<;>omega
  have h2:((2*QB s+b.toNat)%2==1)=b:=by cases b<;>simp<;>omega
  rw [h1,h2,ih]
theorem JJP:∀(L a n:Nat),n<2^L→Jc (a+L) n=List.replicate a false++Jc L n
 |0,0,n,_=>rfl
 |0,a+1,n,h=>by
  simp at h;subst h
  show Jc a (0 / 2)++[false]=_
  rw [Nat.zero_div,List.replicate_succ']
  have:=JJP 0 a 0 (by simp)
  rw [Nat.add_zero] at this
  rw [this];simp [Jc]
 |L+1,a,n,h=>by
  rw [←Nat.add_assoc,Jc,JJP L a (n / 2) (by rw [Nat.pow_succ] at h;omega),Jc,List.append_assoc]
theorem JMx : ∀ (L n : Nat), 2 ^ L ≤ n → n < 2 ^ (L + 1) → Jc (L + 1) n = true :: Jc L n
  | 0, n, h1, h2 => by simp at h1 h2; have : n = 1 := by omega
                       subst this;rfl
  | L + 1, n, h1, h2 => by
    have h3:=JMx L (n / 2) (by rw [Nat.pow_succ] at h1;omega) (by rw [Nat.pow_succ] at h2;omega)
    rw [Jc,h3];rfl
theorem JHW:∀(L n:Nat),Jc L (n%2^L)=Jc L n
 |0,_=>rfl
 |L+1,n=>by
  have h1:n%2^(L+1) / 2=n / 2%2^L:=by rw [Nat.pow_succ,Nat.mul_comm];exact Nat.mod_mul_right_div_self ..
  have h2:n%2^(L+1)%2=n%2:=Nat.mod_mod_of_dvd _ (by rw [Nat.pow_succ];exact Nat.dvd_mul_left _ _)
  rw [Jc,h1,h2,JHW L,Jc]
def bl (n:Nat):Nat:=if h:n<2 then 1 else bl (n / 2)+1
termination_by n
decreasing_by omega
theorem JK7 {n:Nat}(h:n<2):bl n=1:=by rw [bl,dif_pos h]
theorem JPE {n:Nat}(h:¬n<2):bl n=bl (n / 2)+1:=by rw [bl,dif_neg h]
theorem JCm (n:Nat):1≤bl n∧n<2^bl n∧(1≤n→2^(bl n-1)≤n):=by
 induction n using Nat.strongRecOn with
 |_ n ih=>
  by_cases h:n<2
  ·rw [JK7 h];refine ⟨Nat.le_refl _,by simpa using h,fun h1=>by simpa using h1⟩
  ·obtain ⟨h1,h2,h3⟩:=ih (n / 2) (by omega)
   rw [JPE h]
   refine ⟨by omega,by rw [Nat.pow_succ];omega,fun _=>?_⟩
   have:=h3 (by omega)
   obtain ⟨k,hk⟩:∃k,bl (n / 2)=k+1:=⟨bl (n / 2)-1,by omega⟩
   rw [hk] at this ⊢
   simp only [Nat.add_sub_cancel] at this ⊢
   rw [Nat.pow_succ];omega
theorem JD3 {n k:Nat}(h:n<2^k)(hk:1≤k):bl n≤k:=by
 obtain ⟨h1,_,h3⟩:=JCm n
 rcases Nat.eq_zero_or_pos n with e|e
 ·rw [e,JK7 (by omega)];exact hk
 ·refine Nat.le_of_not_lt fun hlt=>?_
  have h4:=h3 e
  have:=Nat.pow_le_pow_right (show 0<2 by omega) (show k≤bl n-1 by omega)
  omega
theorem JK8 {n k:Nat}(h1:2^k≤n)(h2:n<2^(k+1)):bl n=k+1:=by
 have a:=JD3 h2 (by omega)
 obtain ⟨h3,h4,_⟩:=JCm n
 refine Nat.le_antisymm a (Nat.le_of_not_lt fun hlt=>?_)
 have:=Nat.pow_le_pow_right (show 0<2 by omega) (show bl n≤k by omega)
 omega
theorem JPF {n:Nat}(h1:1≤n)(h2:n<18446744073709551616):Lib.bitLen n=bl n:=by
 obtain ⟨a,b,c⟩:=Lib.bitLenAux_bounds 64 n h2 (by omega)
 unfold Lib.bitLen
 generalize Lib.bitLenAux 64 n=L at a b c
 obtain ⟨k,rfl⟩:∃k,L=k+1:=⟨L-1,by omega⟩
 exact (JK8 b c).symm
def YF (n:Nat):Bits:=Jc (2*bl n-1) n
theorem JHL {n:Nat}(h:1≤n):YF n=List.replicate (bl n-1) false++true::Jc (bl n-1) n:=by
 obtain ⟨h1,h2,h3⟩:=JCm n
 unfold YF
 rw [show 2*bl n-1=(bl n-1)+bl n by omega,JJP _ _ _ h2]
 congr 1
 have:=JMx (bl n-1) n (h3 h) (by rw [show bl n-1+1=bl n by omega];exact h2)
 rw [show bl n-1+1=bl n by omega] at this
 exact this
structure Pl where
 num:Int
 cls:Int
 day:Int
 deriving DecidableEq,Inhabited
def YR (x:Pl):Bool:=Qj x.num 1 65535&&Qj x.cls 0 7&&Qj x.day 0 131072
def ZL (l:List Pl):Int:=Zp l.length 60 (l.all YR) (Qv (l.map Pl.num))
def JU (s:Bits):Nat:=s.count true
theorem Zt (a b:Bits):JU (a++b)=JU a+JU b:=List.count_append ..
def Q3 (x:Pl)(last:Int):Bits:=YF (x.num-last).toNat++(Jc 3 x.cls.toNat++Jc 18 x.day.toNat)
def Y8 (s:Bits):Bool:=JU s%2==1
def Qk (x:Pl)(last:Int):Bits:=Q3 x last++[Y8 (Q3 x last)]
def Qa:Int→List Pl→Bits
 |_,[]=>[]
 |last,x::l=>Qk x last++Qa x.num l
def Qe (l:List Pl):Bits:=Jc 8 l.length++Qa 0 l
def Yk (s:Bits):Bits:=s++List.replicate ((8-s.length%8)%8) false
def JB9 (s:Bits):UInt8:=UInt8.ofNat (QB s)
def Z5:Nat→Bits→Bs
 |0,_=>[]
 |k+1,s=>JB9 (s.take 8)::Z5 k (s.drop 8)
def pack (s:Bits):Bs:=Z5 (s.length / 8) s
def JEV (l:List Pl):Bs:=pack (Yk (Qe l))
def JBz (l:List Pl):Bs:=if ZL l=0 then JEV l else []
def Qw (b:Bs):Bits:=(b.map fun c=>Jc 8 c.toNat).flatten
theorem JGE (b:Bs):(Qw b).length=8*b.length:=by
 induction b with
 |nil=>rfl
 |cons c b ih=>simp only [Qw,List.map_cons,List.flatten_cons,List.length_append,Yf,List.length_cons] at ih ⊢;omega
theorem JOf:∀(k:Nat) (s:Bits),s.length=8*k→Qw (Z5 k s)=s
 |0,s,h=>by
  have:s=[]:=List.eq_nil_of_length_eq_zero (by omega)
  subst this;rfl
 |k+1,s,h=>by
  have h8:(s.take 8).length=8:=by rw [List.length_take];omega
  have ih:=JOf k (s.drop 8) (by rw [List.length_drop];omega)
  unfold Z5
  show Jc 8 (JB9 (s.take 8)).toNat++Qw (Z5 k (s.drop 8))=s
  rw [ih]
  have hv:=JBT (s.take 8)
  rw [h8] at hv
  have:(JB9 (s.take 8)).toNat=QB (s.take 8):=JFm (by omega)
  have h2:=JMy (s.take 8)
  rw [h8] at h2
  rw [this,h2,List.take_append_drop]
theorem JJb:∀(b:Bs),Z5 b.length (Qw b)=b
 |[]=>rfl
 |c::b=>by
  show Z5 (b.length+1) (Jc 8 c.toNat++Qw b)=_
  unfold Z5
  rw [List.take_left' (Yf 8 _),List.drop_left' (Yf 8 _),JJb b]
  congr 1
  unfold JB9
  have:=c.toNat_lt
  rw [JA9 8 _ (by omega)]
  simp
theorem JNA (s:Bits):∃k,(Yk s).length=8*k:=by
 refine ⟨(Yk s).length / 8,?_⟩
 unfold Yk
 rw [List.length_append,List.length_replicate]
 omega
theorem JOe (s:Bits):Qw (pack (Yk s))=Yk s:=by
 obtain ⟨k,hk⟩:=JNA s
 unfold pack
 rw [hk,show 8*k / 8=k by omega]
 exact JOf k _ hk
theorem JVQ {a b:Bs}(h:Qw a=Qw b):a=b:=by
 have hl:=congrArg List.length h
 rw [JGE,JGE] at hl
 rw [←JJb a,←JJb b,h,show a.length=b.length by omega]
theorem JS1 {s:Bits}{b:Bs}(h:Yk s=Qw b):pack (Yk s)=b:=JVQ (by rw [JOe,h])
def takeB (k:Nat)(s:Bits):Option (Nat × Bits):=if s.length<k then none else some (QB (s.take k),s.drop k)
theorem JGA {a r:Bits}{k:Nat}(h:a.length=k):takeB k (a++r)=some (QB a,r):=by
 unfold takeB
 rw [if_neg (by rw [List.length_append];omega),List.take_left' h,List.drop_left' h]
theorem JBx {k n:Nat}{s r:Bits}(h:takeB k s=some (n,r)):s=Jc k n++r∧n<2^k:=by
 unfold takeB at h
 split at h
 ·cases h
 ·next hl=>
  cases h
  have hk:(s.take k).length=k:=by rw [List.length_take];omega
  have h1:=JMy (s.take k)
  have h2:=JBT (s.take k)
  rw [hk] at h1 h2
  rw [h1,List.take_append_drop]
  exact ⟨rfl,h2⟩
def gz:Nat→Bits→Option (Nat × Bits)
 |_,[]=>none
 |_,true::s=>some (0,s)
 |0,false::_=>none
 |f+1,false::s=>(gz f s).map fun p=>(p.1+1,p.2)
def JA4 (last:Int)(s:Bits):Option (Pl × Bits):=
 (gz 16 s).bind fun p=>(takeB p.1 p.2).bind fun q=>(takeB 3 q.2).bind fun c=>(takeB 18 c.2).bind fun d=>(takeB 1 d.2).bind fun e=>
  if JU (s.take (s.length-e.2.length))%2=0 then some (⟨last+((2^p.1+q.1:Nat):Int),c.1,d.1⟩,e.2) else none
def JA5:Nat→Int→Bits→Option (List Pl × Bits)
 |0,_,s=>some ([],s)
 |n+1,last,s=>(JA4 last s).bind fun p=>(JA5 n p.1.num p.2).bind fun q=>some (p.1::q.1,q.2)
def JAf (b:Bs):Option (List Pl):=(takeB 8 (Qw b)).bind fun p=>(JA5 p.1 0 p.2).bind fun q=>
 if q.2.length<8∧ZL q.1=0∧JU q.2=0 then some q.1 else none
theorem JMV:∀(z f:Nat) (s:Bits),z≤f→gz f (List.replicate z false++true::s)=some (z,s)
 |0,f,s,_=>by cases f<;>rfl
 |z+1,0,s,h=>by omega
 |z+1,f+1,s,h=>by rw [List.replicate_succ,List.cons_append,gz,JMV z f s (by omega)];rfl
theorem JHO:∀(f:Nat) (s:Bits) (z:Nat) (r:Bits),gz f s=some (z,r)→s=List.replicate z false++true::r∧z≤f
 |f,[],z,r,h=>by cases f<;>cases h
 |f,true::s,z,r,h=>by
  have:gz f (true::s)=some (0,s):=by cases f<;>rfl
  rw [this] at h;cases h;exact ⟨rfl,Nat.zero_le _⟩
 |0,false::s,z,r,h=>by cases h
 |f+1,false::s,z,r,h=>by
  rw [gz] at h
  obtain ⟨⟨z',r'⟩,h1,h2⟩:=Option.map_eq_some_iff.1 h
  cases h2
  obtain ⟨h3,h4⟩:=JHO f s z' r' h1
  exact ⟨by rw [h3,List.replicate_succ];rfl,by omega⟩
def fits (x:Pl)(last:Int):Prop:=(1≤x.num-last∧x.num-last≤65535)∧(0≤x.cls∧x.cls≤7)∧0≤x.day∧x.day≤131072
theorem JM0 (s:Bits):JU (s++[Y8 s])%2=0:=by
 rw [Zt]
 unfold Y8
 have:JU [JU s%2==1]=JU s%2:=by
  rcases Nat.mod_two_eq_zero_or_one (JU s) with h|h<;>rw [h]<;>rfl
 rw [this];omega
theorem JTK (x:Pl)(last:Int)(h:fits x last):(⟨last+(((x.num-last).toNat:Nat):Int),((x.cls.toNat:Nat):Int),((x.day.toNat:Nat):Int)⟩:Pl)=x:=by
 obtain ⟨h1,h2,h3⟩:=h
 obtain ⟨a,b,c⟩:=x
 simp only at h1 h2 h3 ⊢
 rw [Pl.mk.injEq];omega
theorem JTJ {x:Pl}{last:Int}(h:fits x last)(r:Bits):JA4 last (Qk x last++r)=some (x,r):=by
 obtain ⟨h1,h2,h3⟩:=h
 have hn:1≤(x.num-last).toNat:=by omega
 obtain ⟨b1,b2,b3⟩:=JCm (x.num-last).toNat
 have bk:=JD3 (n:=(x.num-last).toNat) (k:=16) (by omega) (by omega)
 have e:Qk x last++r=List.replicate (bl (x.num-last).toNat-1) false++true::(Jc (bl (x.num-last).toNat-1) (x.num-last).toNat++(Jc 3 x.cls.toNat++(Jc 18 x.day.toNat++([Y8 (Q3 x last)]++r)))):=by
  unfold Qk
  rw [show Q3 x last++[Y8 (Q3 x last)]++r=Q3 x last++([Y8 (Q3 x last)]++r) by simp]
  generalize [Y8 (Q3 x last)]++r=q
  unfold Q3
  rw [JHL hn];simp
 unfold JA4
 rw [e,JMV _ _ _ (by omega)]
 simp only [Option.bind_some]
 rw [JGA (Yf _ _)]
 simp only [Option.bind_some]
 rw [JGA (Yf _ _)]
 simp only [Option.bind_some]
 rw [JGA (Yf _ _)]
 simp only [Option.bind_some]
 rw [JGA (k:=1) (a:=[Y8 (Q3 x last)]) rfl]
 simp only [Option.bind_some]
 rw [←e,show (Qk x last++r).take ((Qk x last++r).length-r.length)=Qk x last by rw [List.length_append,Nat.add_sub_cancel,List.take_left]]
 unfold Qk
 rw [if_pos (JM0 _)]
 have hv:2^(bl (x.num-last).toNat-1)+QB (Jc (bl (x.num-last).toNat-1) (x.num-last).toNat)=(x.num-last).toNat:=by
  rw [←JHW,JA9 _ _ (Nat.mod_lt _ (Nat.two_pow_pos _))]
  have hq:(x.num-last).toNat / 2^(bl (x.num-last).toNat-1)=1:=by
   have:=b3 hn
   have h4:(x.num-last).toNat<2*2^(bl (x.num-last).toNat-1):=by
    rw [Nat.mul_comm,←Nat.pow_succ,show (bl (x.num-last).toNat-1).succ=bl (x.num-last).toNat by omega];exact b2
   exact Nat.div_eq_of_lt_le (by omega) (by omega)
  have:=Nat.div_add_mod (x.num-last).toNat (2^(bl (x.num-last).toNat-1))
  rw [hq] at this;omega
 rw [hv,JA9 3 _ (by omega),JA9 18 _ (by omega),JTK x last ⟨h1,h2,h3⟩]
theorem JJe {last:Int}{s r:Bits}{x:Pl}(h:JA4 last s=some (x,r)):s=Qk x last++r:=by
 unfold JA4 at h
 obtain ⟨⟨z,s1⟩,h1,h⟩:=Option.bind_eq_some_iff.1 h
 obtain ⟨⟨v,s2⟩,h2,h⟩:=Option.bind_eq_some_iff.1 h
 obtain ⟨⟨c,s3⟩,h3,h⟩:=Option.bind_eq_some_iff.1 h
 obtain ⟨⟨d,s4⟩,h4,h⟩:=Option.bind_eq_some_iff.1 h
 obtain ⟨⟨p,s5⟩,h5,h⟩:=Option.bind_eq_some_iff.1 h
 simp only at h2 h3 h4 h5 h
 split at h
 ·next hp=>
  simp only [Option.some.injEq,Prod.mk.injEq] at h
  obtain ⟨hx,hr⟩:=h
  subst hr
  obtain ⟨e1,k1⟩:=JHO _ _ _ _ h1
  obtain ⟨e2,k2⟩:=JBx h2
  obtain ⟨e3,k3⟩:=JBx h3
  obtain ⟨e4,k4⟩:=JBx h4
  obtain ⟨e5,k5⟩:=JBx h5
  have hn:(x.num-last).toNat=2^z+v:=by rw [←hx];simp only;omega
  have hc:x.cls.toNat=c:=by rw [←hx];simp
  have hd:x.day.toNat=d:=by rw [←hx];simp
  have hbl:bl (2^z+v)=z+1:=JK8 (by omega) (by rw [Nat.pow_succ];omega)
  have hg:YF (2^z+v)=List.replicate z false++true::Jc z v:=by
   rw [JHL (by have:=Nat.two_pow_pos z;omega),hbl,Nat.add_sub_cancel]
   congr 2
   rw [←JHW z (2^z+v),Nat.add_mod_left,Nat.mod_eq_of_lt k2]
  have hb:s=Q3 x last++(Jc 1 p++s5):=by
   unfold Q3
   rw [hn,hc,hd,hg,e1,e2,e3,e4,e5];simp
  have hs:s.take (s.length-s5.length)=Q3 x last++Jc 1 p:=by
   rw [hb,←List.append_assoc,List.length_append,Nat.add_sub_cancel,List.take_left]
  rw [hs] at hp
  have hpar:Jc 1 p=[Y8 (Q3 x last)]:=by
   have:Jc 1 p=[p%2==1]:=rfl
   rw [this] at hp ⊢
   rw [Zt] at hp
   unfold Y8
   congr 1
   have ho:JU [p%2==1]=p%2:=by rcases Nat.mod_two_eq_zero_or_one p with h|h<;>rw [h]<;>rfl
   rw [ho] at hp
   rcases Nat.mod_two_eq_zero_or_one p with h6|h6<;>rcases Nat.mod_two_eq_zero_or_one (JU (Q3 x last)) with h7|h7<;>rw [h6,h7]<;>omega
  unfold Qk
  rw [hb,hpar];simp
 ·cases h
theorem JNL:∀(n:Nat) (last:Int) (s r:Bits) (l:List Pl),JA5 n last s=some (l,r)→s=Qa last l++r∧l.length=n
 |0,last,s,r,l,h=>by cases h;exact ⟨rfl,rfl⟩
 |n+1,last,s,r,l,h=>by
  unfold JA5 at h
  obtain ⟨⟨x,s1⟩,h1,h⟩:=Option.bind_eq_some_iff.1 h
  obtain ⟨⟨l1,r1⟩,h2,h⟩:=Option.bind_eq_some_iff.1 h
  simp only [Option.some.injEq,Prod.mk.injEq] at h
  obtain ⟨rfl,rfl⟩:=h
  obtain ⟨e,hl⟩:=JNL n x.num s1 r1 l1 h2
  refine ⟨?_,by simp [hl]⟩
  rw [JJe h1,e,Qa,List.append_assoc]
def chain:Int→List Pl→Prop
 |_,[]=>True
 |last,x::l=>fits x last∧chain x.num l
theorem JLk:∀(l:List Pl) (last:Int),0≤last→l.all YR=true→Qv (last::l.map Pl.num)=true→chain last l
 |[],_,_,_,_=>trivial
 |x::l,last,h0,hok,hr=>by
  simp only [List.all_cons,Bool.and_eq_true] at hok
  have hx:=hok.1
  unfold YR at hx
  simp only [Bool.and_eq_true,ZI] at hx
  simp only [List.map_cons,Qv,Bool.and_eq_true,decide_eq_true_eq] at hr
  exact ⟨⟨by omega,by omega,by omega⟩,JLk l x.num (by omega) hok.2 hr.2⟩
theorem JIa {l:List Pl}(h:ZL l=0):chain 0 l∧l.length≤60:=by
 obtain ⟨h1,h2,h3⟩:=JCB h
 refine ⟨JLk l 0 (by omega) h2 ?_,h1⟩
 cases l with
 |nil=>rfl
 |cons x l=>
  simp only [List.all_cons,Bool.and_eq_true] at h2
  have hx:=h2.1
  unfold YR at hx
  simp only [Bool.and_eq_true,ZI] at hx
  simp only [List.map_cons,Qv,Bool.and_eq_true,decide_eq_true_eq] at h3 ⊢
  exact ⟨by omega,h3⟩
theorem JNJ:∀(l:List Pl) (last:Int) (r:Bits),chain last l→JA5 l.length last (Qa last l++r)=some (l,r)
 |[],_,_,_=>rfl
 |x::l,last,r,h=>by
  rw [List.length_cons,JA5,Qa,List.append_assoc,JTJ h.1]
  simp only [Option.bind_some]
  rw [JNJ l x.num r h.2];rfl
theorem JVR (l:List Pl):Qw (JEV l)=Jc 8 l.length++(Qa 0 l++List.replicate ((8-(Qe l).length%8)%8) false):=by
 unfold JEV
 rw [JOe]
 unfold Yk Qe
 rw [List.append_assoc]
theorem JJT (n:Nat):JU (List.replicate n false)=0:=by
 unfold JU;rw [List.count_replicate];simp
theorem JSE {s:Bits}(h:JU s=0):s=List.replicate s.length false:=by
 induction s with
 |nil=>rfl
 |cons b s ih=>
  unfold JU at h ih
  cases b with
  |true=>simp at h
  |false=>
   rw [List.count_cons] at h
   simp at h
   rw [List.length_cons,List.replicate_succ]
   congr 1
   exact ih h
theorem JTB {b:Bs}{l:List Pl}:JAf b=some l↔ZL l=0∧JEV l=b:=by
 constructor
 ·intro h
  unfold JAf at h
  obtain ⟨⟨n,s⟩,h1,h⟩:=Option.bind_eq_some_iff.1 h
  obtain ⟨⟨l1,r⟩,h2,h⟩:=Option.bind_eq_some_iff.1 h
  simp only at h2 h
  split at h
  ·next hc=>
   cases h
   obtain ⟨hr,he,ho⟩:=hc
   obtain ⟨e1,_⟩:=JBx h1
   obtain ⟨e2,hl⟩:=JNL _ _ _ _ _ h2
   refine ⟨he,JS1 ?_⟩
   have hu:Qw b=Qe l++r:=by rw [e1,e2];unfold Qe;rw [hl,List.append_assoc]
   rw [hu]
   unfold Yk
   congr 1
   have h8:=JGE b
   rw [hu,List.length_append] at h8
   rw [show (8-(Qe l).length%8)%8=r.length by omega]
   exact (JSE ho).symm
  ·cases h
 ·rintro ⟨h1,rfl⟩
  obtain ⟨hc,hl⟩:=JIa h1
  unfold JAf
  rw [JVR,JGA (Yf _ _)]
  simp only [Option.bind_some]
  rw [JA9 8 _ (by omega),JNJ l 0 _ hc]
  simp only [Option.bind_some]
  rw [if_pos ⟨by rw [List.length_replicate];omega,h1,JJT _⟩]
end Go.Bk
namespace Go.Mw
open Go.Proofs Go.Bk
theorem Jd:Tryz.prog.follows .mixedOrders=true:=by kernel_rfl
abbrev D.i (n:Int):D:=.raw (.int .i64 n)
@[go_sem] def Zi (n:Int):List D:=[.i n]
abbrev Qy (l:List Int):D:=.sl 1 (l.map Zi)
@[go_sem] def encStr (l:Bs):List D:=[.raw (.string (bs l))]
abbrev JF8 (l:List Bs):D:=.sl 1 (l.map encStr)
@[go_sem] def Ye (t:Tr):List D:=[.i t.flow,.i t.pour,.i t.shown]
abbrev JGD (l:List Tr):D:=.sl 3 (l.map Ye)
abbrev trV (t:Tr):AV:=.val true ((Ye t).map .d)
@[go_sem] def Zo (x:Sh):List D:=[.i x.meter,JGD x.tries]
abbrev Z7 (l:List Sh):D:=.sl 2 (l.map Zo)
abbrev shV (x:Sh):AV:=.val true ((Zo x).map .d)
@[go_sem] def JAb (x:Pl):List D:=[.i x.num,.i x.cls,.i x.day]
abbrev JAU (l:List Pl):D:=.sl 3 (l.map JAb)
abbrev plV (x:Pl):AV:=.val true ((JAb x).map .d)
@[go_sem] def JAa (x:Pg):List D:=[.i x.house,Qy x.reads]
abbrev Z6 (l:List Pg):D:=.sl 2 (l.map JAa)
abbrev pgV (x:Pg):AV:=.val true ((JAa x).map .d)
abbrev JAQ (l:Bs):D:=.sl 1 (Jy l)
def JIM (z:Bool):AL:=bif z then .ptr 990 0 else .d (.raw (.pointer none))
def JIR (l:Bs):AL:=if l=[] then .d (.raw (.slice none 0 0)) else .own 901 0 l.length l.length
def JHd (z:Bool)(l:Bs):List (Nat × AO):=[(990,.cells [JIM z,JIR l]),(901,.arr 5 1 (Jy l))]
theorem JLG:JIR []=.d (.raw (.slice none 0 0)):=rfl
theorem JIS {l:Bs}(h:l≠[]):JIR l=.own 901 0 l.length l.length:=if_neg h
theorem JKt:JIM true=.ptr 990 0:=rfl
theorem JKs:JIM false=.d (.raw (.pointer none)):=rfl
theorem JMv (v:Value)(w:World):(callFunc 179 #[v]).run Tryz.prog w=.ok (.value v) w:=by
 rw [run_callFunc_extern Tryz.func179 JH JH JH (e:=Extern.AbiNoEscape.same) JH,Lib.run_noEscape];rfl
end Go.Mw
namespace Go.Mw
open Go.Proofs
open Go.Bk
theorem JLV (z:Bool)(l:Bs):Qo Tryz.prog 146 [.leaf (.ptr 990 0)] (JHd z l) (.ret (.tup []) (JHd true l)):=by
 unfold JHd
 rcases Bool.eq_false_or_eq_true z with hz|hz<;>subst hz<;>by_cases hl:l=[]
 ·skip
  subst hl
  rw [JLG]
  refine Jq Jd Tryz.func146 rfl JGO JH rfl ?_
  refine JB.reg ?_
  iterate 5 (refine JA.o1 ZS ?_)
  refine JA.nil ?_
  refine JB.cnd ZS (fun hb6=>?_) (fun hb6=>?_)
  ·exact absurd hb6 (by simp)
  ·skip
   refine JB.reg ?_
   iterate 5 (refine JA.o1 ZS ?_)
   refine JA.val (JNt Tryz.underlying86 JH JD JD JD) rfl JD ?_ 
   refine JA.nil ?_
   refine JB.cnd ZS (fun hb19=>?_) (fun hb19=>?_)
   ·exact absurd hb19 (by simp)
   ·skip
    exact Ends.fin0 [990,901] (rs:=[]) rfl ZS JGU
 ·skip
  have hb:=JIS hl
  rw [hb]
  refine Jq Jd Tryz.func146 rfl JGO JH rfl ?_
  refine JB.reg ?_
  iterate 5 (refine JA.o1 ZS ?_)
  refine JA.nil ?_
  refine JB.cnd ZS (fun hb6=>?_) (fun hb6=>?_)
  ·exact absurd hb6 (by simp)
  ·skip
   refine JB.reg ?_
   iterate 5 (refine JA.o1 ZS ?_)
   refine JA.val (JNt Tryz.underlying86 JH JD JD JD) rfl JD ?_ 
   refine JA.nil ?_
   refine JB.cnd ZS (fun hb19=>?_) (fun hb19=>?_)
   ·exact absurd hb19 (by simp)
   ·skip
    exact Ends.fin0 [990,901] (rs:=[]) rfl ZS JGU
 ·skip
  subst hl
  rw [JLG]
  refine Jq Jd Tryz.func146 rfl JGO JH rfl ?_
  refine JB.reg ?_
  iterate 5 (refine JA.o1 ZS ?_)
  refine JA.nil ?_
  refine JB.cnd ZS (fun hb6=>?_) (fun hb6=>?_)
  ·skip
   refine JB.reg1 ?_
   iterate 2 (refine JA.o1 ZS ?_)
   refine JA.val (JNw Tryz.underlying86 Tryz.underlying250 (k:=2) JH (by decide) JD JD (by simp)) rfl JD ?_ 
   refine JA.val (JNv JMv JD JD) rfl JD ?_ 
   refine JA.val (JNu Tryz.underlying250 Tryz.underlying86 JH JD JD (T:=90) rfl JH) rfl JD ?_ 
   iterate 3 (refine JA.o1 ZS ?_)
   refine JA.nil ?_
   exact Ends.fin0 [990,901] (rs:=[]) rfl ZS JGU
  ·exact absurd hb6 (by simp)
 ·skip
  have hb:=JIS hl
  rw [hb]
  refine Jq Jd Tryz.func146 rfl JGO JH rfl ?_
  refine JB.reg ?_
  iterate 5 (refine JA.o1 ZS ?_)
  refine JA.nil ?_
  refine JB.cnd ZS (fun hb6=>?_) (fun hb6=>?_)
  ·skip
   refine JB.reg1 ?_
   iterate 2 (refine JA.o1 ZS ?_)
   refine JA.val (JNw Tryz.underlying86 Tryz.underlying250 (k:=2) JH (by decide) JD JD (by simp)) rfl JD ?_ 
   refine JA.val (JNv JMv JD JD) rfl JD ?_ 
   refine JA.val (JNu Tryz.underlying250 Tryz.underlying86 JH JD JD (T:=90) rfl JH) rfl JD ?_ 
   iterate 3 (refine JA.o1 ZS ?_)
   refine JA.nil ?_
   exact Ends.fin0 [990,901] (rs:=[]) rfl ZS JGU
  ·exact absurd hb6 (by simp)
end Go.Mw
namespace Go.Mw
open Go.Proofs
open Go.Bk
theorem JQl:Qo Tryz.prog 146 [.leaf (.ptr 990 0)] [(990,.cells [.d (.raw (.pointer none)),.d (.raw (.slice none 0 0))]),(901,.arr 5 1 [])] (.ret (.tup []) [(990,.cells [.ptr 990 0,.d (.raw (.slice none 0 0))]),(901,.arr 5 1 [])]):=JLV false []
theorem JLi {l:Bs}(h:l≠[]):Qo Tryz.prog 146 [.leaf (.ptr 990 0)] [(990,.cells [.ptr 990 0,.own 901 0 l.length l.length]),(901,.arr 5 1 (Jy l))] (.ret (.tup []) [(990,.cells [.ptr 990 0,.own 901 0 l.length l.length]),(901,.arr 5 1 (Jy l))]):=by
 have:=JLV true l
 unfold JHd at this
 rw [JIS h] at this
 exact this
theorem JD5:Jy []=[]:=rfl
theorem JPv (l s:Bs)(hls:l++s≠[])(hlen:l.length+s.length≤140737488355328):Qo Tryz.prog 103 [.leaf (.ptr 990 0),.str s] [(990,.cells (Q8 990 901 l)),(901,.arr 5 1 (Jy l))] (.ret (.tup [(false,[.d (.i s.length)]),(false,[.d (.raw .nilIface)])]) [(990,.cells (Q8 990 901 (l++s))),(901,.arr 5 1 (Jy (l++s)))]):=by
 by_cases hl:l=[]
 ·skip
  subst hl
  have hs:s≠[]:=hls
  rw [JHc,JET hls]
  refine Jq Jd Tryz.func103 rfl (by simp only [List.length_cons,List.length_nil,Tryz.ntmps103];omega) JH rfl ?_
  refine JB.reg ?_
  iterate 2 (refine JA.o ?_)
  refine JA.nil (JB.reg ?_)
  refine JA.o ?_
  refine JA.lendG [(990,990),(901,901)] JD (JQl) JW (.inl ⟨[],by simp only [go_sem]<;>rfl,rfl⟩) JD ZC rfl (by decide) YM Zc V42 Z0 JD ?_
  refine JA.nil (JB.reg ?_)
  iterate 6 (refine JA.o ?_)
  first|refine JA.appS 901 l s V93 JD JD Tryz.underlying53 Tryz.underlying9 (i:=Tryz.t5) JH ⟨by kernel_rfl,by kernel_rfl,by kernel_rfl⟩ hlen JD ?_|refine JA.appS 901 [] s V93 JD JD Tryz.underlying53 Tryz.underlying9 (i:=Tryz.t5) JH ⟨by kernel_rfl,by kernel_rfl,by kernel_rfl⟩ hlen JD ?_
  iterate 3 (refine JA.o ?_)
  refine JA.nil (JB.reg ?_)
  iterate 4 (refine JA.o ?_)
  refine JA.nil ?_
  exact Ends.fin [990,901] (rs:=[.tmp 4,.tmp 5]) rfl JD Yn
 ·skip
  rw [JET hl,JET hls]
  refine Jq Jd Tryz.func103 rfl (by simp only [List.length_cons,List.length_nil,Tryz.ntmps103];omega) JH rfl ?_
  refine JB.reg ?_
  iterate 2 (refine JA.o ?_)
  refine JA.nil (JB.reg ?_)
  refine JA.o ?_
  refine JA.lendG [(990,990),(901,901)] JD (JLi hl) JW (.inl ⟨[],by simp only [go_sem]<;>rfl,rfl⟩) JD ZC rfl (by decide) YM Zc V42 Z0 JD ?_
  refine JA.nil (JB.reg ?_)
  iterate 6 (refine JA.o ?_)
  first|refine JA.appS 901 l s V93 JD JD Tryz.underlying53 Tryz.underlying9 (i:=Tryz.t5) JH ⟨by kernel_rfl,by kernel_rfl,by kernel_rfl⟩ hlen JD ?_|refine JA.appS 901 [] s V93 JD JD Tryz.underlying53 Tryz.underlying9 (i:=Tryz.t5) JH ⟨by kernel_rfl,by kernel_rfl,by kernel_rfl⟩ hlen JD ?_
  iterate 3 (refine JA.o ?_)
  refine JA.nil (JB.reg ?_)
  iterate 4 (refine JA.o ?_)
  refine JA.nil ?_
  exact Ends.fin [990,901] (rs:=[.tmp 4,.tmp 5]) rfl JD Yn
theorem JPu (l:Bs)(c:UInt8)(hl:l≠[])(hlen:l.length+1≤140737488355328):Qo Tryz.prog 104 [.leaf (.ptr 990 0),.raw (.int .u8 c.toNat)] [(990,.cells (Q8 990 901 l)),(901,.arr 5 1 (Jy l))] (.ret (.raw .nilIface) [(990,.cells (Q8 990 901 (l++[c]))),(901,.arr 5 1 (Jy (l++[c])))]):=by
 have hne:l++[c]≠[]:=by simp
 rw [JET hl,JET hne]
 have hbl:=Zg l
 refine Jq Jd Tryz.func104 rfl (by simp only [List.length_cons,List.length_nil,Tryz.ntmps104];omega) JH rfl ?_
 refine JB.reg ?_
 have X:=Fx.mk hbl
 refine JA.o1 JC ?_
 refine JA.nil (JB.reg ?_)
 refine JA.o1 JC ?_
 refine JA.lendG [(990,990),(901,901)] JD (JLi hl) JW (.inl ⟨[],by simp only [go_sem]<;>rfl,rfl⟩) JD ZC rfl (by decide) YM Zc V42 Z0 JD ?_
 refine JA.nil (JB.reg ?_)
 iterate 7 (refine JA.o1 JC ?_)
 refine JA.o1 V7 ?_
 iterate 3 (refine JA.o1 JC ?_)
 refine JA.nil (JB.reg ?_)
 refine JA.o1 JC ?_
 refine JA.nil ?_
 exact Ends.fin [990,901] (rs:=[.tmp 4]) rfl JC (by simp only [go_sem,X.h]<;>first|rfl|((repeat' (first|with_reducible_and_instances rfl|refine YJ ?_ ?_ ?_|refine YI ?_|refine YT ?_|refine YK ?_ ?_|refine YC ?_|refine YD ?_|refine YU ?_|refine YH ?_ ?_|refine YQ ?_ ?_|refine YS ?_|refine YP ?_|(refine YG ?_;omega)));all_goals (first|omega|(simp [Jy];done))))
theorem JGr (l:Bs)(ws:List Bs)(hw:blanks ws≠[])(hn:ws.length≤1000000)(hlen:l.length+(blanks ws).length+1≤140737488355328):Qo Tryz.prog 49 [.leaf (.ptr 990 0),.leaf (.d (JF8 ws))] [(990,.cells (Q8 990 901 l)),(901,.arr 5 1 (Jy l))] (.ret (.tup []) [(990,.cells (Q8 990 901 (l++blanks ws++[10]))),(901,.arr 5 1 (Jy (l++blanks ws++[10])))]):=by
 have hj:=JI2 ws
 have hne:l++blanks ws≠[]:=by simp [hw]
 have hl2:(l++blanks ws).length=l.length+(blanks ws).length:=List.length_append
 refine Jq Jd Tryz.func49 rfl (by simp only [List.length_cons,List.length_nil,Tryz.ntmps49];omega) JH rfl ?_
 refine JB.opk 8 ?_
 have X:=Fx.mk hj
 iterate 4 (refine JF.o1 JC ?_)
 refine JF.cal (JLO ws [32] (by omega) (by rw [hj];omega)) JW JC V32 (QZ) JC JD JD ?_
 refine JF.lendG (ds:=[]) [(990,990),(901,901)] JD (JPv l (blanks ws) hne (by omega)) JW JD JD V27 rfl (by decide) JDD Zc V40 rfl JD JD JD ?_
 refine JF.nil (QW.fin J4 J4 ?_)
 refine JB.reg1 ?_
 iterate 3 (refine JA.o1 JC ?_)
 refine JA.lendG [(990,990),(901,901)] JD (JPu (l++blanks ws) 10 hne (by omega)) JW (.inl ⟨[],by simp only [go_sem]<;>rfl,rfl⟩) JD V8 rfl (by decide) JDD Zc V40 Z0 JD ?_
 refine JA.nil ?_
 exact Ends.fin0 [990,901] (rs:=[]) rfl JC Qp
end Go.Mw
namespace Go.Bk
open Go Go.Mw
theorem JGn (l:Bs)(p:Nat)(h:p<l.length):(bs l)[p]'(by rw [Z2];exact h)=l[p]:=by
 have:=JLE l p
 rw [getElem?_pos (bs l) p (by rw [Z2];exact h),List.getElem?_eq_getElem h] at this
 exact Option.some.inj this
theorem JE9 (l:Bs)(p:Nat)(h:p<l.length)(ha:l[p].toNat<128):Utf8.decode (bs l) p=(l[p].toNat,1):=by
 have:=decode_ascii (bs l) p (by rw [Z2];exact h) (by rw [JGn l p h];exact ha)
 rw [JGn l p h] at this
 exact this
theorem JQr (l:Bs)(p k:Nat)(h:p+k<l.length)(hc:((bs l).get! (p+k)).toNat / 64=2):128≤(l[p+k]).toNat:=by
 have e:(bs l).get! (p+k)=l[p+k]:=by
  have h1:(bs l).get! (p+k)=(bs l)[p+k]'(by rw [Z2];exact h):=by
   rw [ByteArray.get!]
   show (bs l).data[p+k]! = _
   rw [getElem!_pos]
   rfl
  rw [h1,JGn l _ h]
 rw [e] at hc
 omega
theorem JLt (l:Bs)(p:Nat)(h:p<l.length)(ha:128≤l[p].toNat):128≤(Utf8.decode (bs l) p).1∧1≤(Utf8.decode (bs l) p).2∧p+(Utf8.decode (bs l) p).2≤l.length ∧
  ∀i (hi:i<l.length),p≤i→i<p+(Utf8.decode (bs l) p).2→128≤l[i].toNat:=by
 obtain ⟨h1,h2⟩:=decode_high (bs l) p (by rw [Z2];exact h) (by rw [JGn l p h];exact ha)
 refine ⟨h1,h2,?_⟩
 have hone:∀i (hi:i<l.length),p≤i→i<p+1→128≤l[i].toNat:=fun i hi h3 h4=>by
  have:i=p:=by omega
  subst this;exact ha
 have c1:∀k,p+k<l.length→((bs l).get! (p+k)).toNat / 64=2→∀i (hi:i<l.length),i=p+k→128≤l[i].toNat:=fun k hk hc i hi e=>by subst e;exact JQr l p k hk hc
 unfold Utf8.decode
 simp only [Z2,Bool.and_eq_true,decide_eq_true_eq,beq_iff_eq]
 split
 ·exact ⟨by simp;omega,hone⟩
 ·split
  ·rename_i hh
   have e1:=c1 1 hh.2.1 hh.2.2
   split
   ·refine ⟨by simp;omega,fun i hi h3 h4=>?_⟩
    simp at h4
    by_cases e:i=p
    ·exact hone i hi (by omega) (by omega)
    ·exact e1 i hi (by omega)
   ·exact ⟨by simp;omega,hone⟩
  ·split
   ·rename_i hh
    have e1:=c1 1 hh.1.2.1 hh.1.2.2
    have e2:=c1 2 hh.2.1 hh.2.2
    split
    ·refine ⟨by simp;omega,fun i hi h3 h4=>?_⟩
     simp at h4
     by_cases e:i=p
     ·exact hone i hi (by omega) (by omega)
     ·by_cases e':i=p+1
      ·exact e1 i hi e'
      ·exact e2 i hi (by omega)
    ·exact ⟨by simp;omega,hone⟩
   ·split
    ·rename_i hh
     have e1:=c1 1 hh.1.1.2.1 hh.1.1.2.2
     have e2:=c1 2 hh.1.2.1 hh.1.2.2
     have e3:=c1 3 hh.2.1 hh.2.2
     split
     ·refine ⟨by simp;omega,fun i hi h3 h4=>?_⟩
      simp at h4
      by_cases e:i=p
      ·exact hone i hi (by omega) (by omega)
      ·by_cases e':i=p+1
       ·exact e1 i hi e'
       ·by_cases e'':i=p+2
        ·exact e2 i hi e''
        ·exact e3 i hi (by omega)
     ·exact ⟨by simp;omega,hone⟩
    ·exact ⟨by simp;omega,hone⟩
theorem JNq {l:Bs}{p:Nat}(h:p<l.length)(h1:48≤(Utf8.decode (bs l) p).1)(h2:(Utf8.decode (bs l) p).1≤57):(Utf8.decode (bs l) p).2=1∧l[p].toNat=(Utf8.decode (bs l) p).1∧Yb l[p]=true:=by
 by_cases ha:l[p].toNat<128
 ·have:=JE9 l p h ha
  rw [this] at h1 h2 ⊢
  exact ⟨rfl,rfl,JEN.2 ⟨h1,h2⟩⟩
 ·have:=(JLt l p h (by omega)).1
  omega
theorem JT7 {l:Bs}{p:Nat}(h:p<l.length)(hn:¬(48≤(Utf8.decode (bs l) p).1∧(Utf8.decode (bs l) p).1≤57)):1≤(Utf8.decode (bs l) p).2∧p+(Utf8.decode (bs l) p).2≤l.length∧∀i (hi:i<l.length),p≤i→i<p+(Utf8.decode (bs l) p).2→Yb l[i]=false:=by
 by_cases ha:l[p].toNat<128
 ·have:=JE9 l p h ha
  rw [this] at hn ⊢
  refine ⟨Nat.le_refl _,by simp;omega,fun i hi h3 h4=>?_⟩
  simp at h4
  have:i=p:=by omega
  subst this
  rw [←Bool.not_eq_true,JEN]
  exact hn
 ·obtain ⟨_,h2,h3,h4⟩:=JLt l p h (by omega)
  refine ⟨h2,h3,fun i hi h5 h6=>?_⟩
  have:=h4 i hi h5 h6
  rw [←Bool.not_eq_true,JEN]
  omega
theorem JQ3 (l:Bs)(p k:Nat)(h:p+k≤l.length)(hn:∀i (hi:i<l.length),p≤i→i<p+k→Yb l[i]=false):Y5 (l.take (p+k))=Y5 (l.take p):=by
 induction k with
 |zero=>rfl
 |succ k ih=>
  rw [←Nat.add_assoc,List.take_add_one,List.getElem?_eq_getElem (show p+k<l.length by omega),JLz,ih (by omega) (fun i hi h1 h2=>hn i hi h1 (by omega))]
  have:=hn (p+k) (by omega) (by omega) (by omega)
  simp [Y5,dig,this]
theorem JQ1 (l:Bs)(p:Nat)(h:p<l.length)(hd:Yb l[p]=true):Y5 (l.take (p+1))=Y5 (l.take p)+(l[p].toNat-48):=by
 rw [List.take_add_one,List.getElem?_eq_getElem h,JLz]
 simp [Y5,dig,hd]
end Go.Bk
namespace Go.Mw
open Go.Proofs
open Go.Bk
attribute [local go_sem] decide_true beq_self_eq_true bne_self_eq_false
def Jf:Value:=.iface 172 (.agg #[.int .i64 8])
theorem Yz (n l h:Int):Jb Tryz.prog 94 [.int n,.int l,.int h] (.bool (Qj n l h)) []:=by
 refine Jq Jd Tryz.func94 rfl (by simp only [List.length_cons,List.length_nil,Tryz.ntmps94];omega) JH rfl ?_
 refine JB.reg ?_
 refine JA.o1 JBb ?_
 refine JA.nil (JB.reg ?_)
 iterate 4 (refine JA.o1 JBb ?_)
 iterate 3 (refine JA.gop JD JBb JD ?_)
 iterate 2 (refine JA.o1 JBb ?_)
 refine JA.nil ?_
 exact Ends.fin [] (rs:=[.tmp 6]) rfl JBb (by simp only [go_sem,Qj]<;>first|rfl|exact QV)
theorem JBH (n l h:Int):Jb Tryz.prog 142 [.int n,.int l,.int h] (.bool (Qj n l h)) []:=by
 refine Jq Jd Tryz.func142 rfl (by simp only [List.length_cons,List.length_nil,Tryz.ntmps142];omega) JH rfl ?_
 refine JB.reg ?_
 refine JA.o1 JBb ?_
 refine JA.nil (JB.reg ?_)
 iterate 4 (refine JA.o1 JBb ?_)
 iterate 3 (refine JA.gop JD JBb JD ?_)
 iterate 2 (refine JA.o1 JBb ?_)
 refine JA.nil ?_
 exact Ends.fin [] (rs:=[.tmp 6]) rfl JBb (by simp only [go_sem,Qj]<;>first|rfl|exact QV)
theorem Qr (b:Bool)(h:b=true):Jb Tryz.prog 55 [.bool b] (.tup []) []:=by
 subst h
 refine Jq Jd Tryz.func55 rfl (by simp only [List.length_cons,List.length_nil,Tryz.ntmps55];omega) JH rfl ?_
 refine JB.reg ?_
 iterate 2 (refine JA.o ?_)
 refine JA.nil ?_
 refine JB.cnd JD (fun hb3=>?_) (fun hb3=>?_)
 ·exact absurd hb3 (by simp)
 ·skip
  exact Ends.fin0 [] (rs:=[]) rfl JD Yn
theorem Yg (b:Bool)(h:b=false):QT Tryz.prog Jf 55 [.bool b] []:=by
 subst h
 refine Q4 Jd Tryz.func55 rfl (by simp only [List.length_cons,List.length_nil,Tryz.ntmps55];omega) JH rfl ?_
 refine JB.reg ?_
 iterate 2 (refine JA.o ?_)
 refine JA.nil ?_
 refine JB.cnd JD (fun hb3=>?_) (fun hb3=>?_)
 ·skip
  refine JB.pan1 (pv:=Jf) 2 rfl ?_
  iterate 2 (refine JA.o ?_)
  exact JA.pani (us:=[.int .i64 8]) JD rfl rfl
 ·exact absurd hb3 (by simp)
end Go.Mw
namespace Go.Mw
open Go.Proofs
open Go.Bk
attribute [local go_sem] decide_true beq_self_eq_true bne_self_eq_false
theorem JQ0 (l:Bs)(k:Nat)(h:l.length≤1000000):Y5 (l.take k)≤9000000:=by
 have:=JQ2 (l.take k)
 have:(l.take k).length≤l.length:=by rw [List.length_take];omega
 omega
end Go.Mw
namespace Go.Mw
open Go.Proofs
open Go.Bk
attribute [local go_sem] decide_true beq_self_eq_true bne_self_eq_false
theorem g64:∃g,Tryz.prog.globalNamed "internal/strconv.uint64pow10" = some g:=Option.isSome_iff_exists.1 (show (Tryz.prog.globalNamed "internal/strconv.uint64pow10").isSome=true by kernel_rfl)
theorem JGq (n:Nat)(h:n≤9223372036854775807):Jb Tryz.prog 46 [.int n] (.str (Jl n)) []:=by
 obtain ⟨g,hg⟩:=g64
 have:=JPh (n:Int) (by omega) (by omega) g hg
 rwa [JRv] at this
theorem JGp (m:Int)(h0:0≤m)(h1:m≤9223372036854775807):Jb Tryz.prog 46 [.int m] (.str (Jl m.toNat)) []:=by
 have:=JGq m.toNat (by omega)
 rwa [Int.toNat_of_nonneg h0] at this
theorem JNZ (c:UInt8):∀n:Nat,Lib.repeatL [c] n=List.replicate n c
 |0=>rfl
 |n+1=>by rw [Lib.repeatL,JNZ c n,List.replicate_succ];rfl
theorem JPn (c:UInt8)(n:Nat)(h:n≤1000000):Jb Tryz.prog 131 [.str [c],.int n] (.str (List.replicate n c)) []:=by
 have:=JPo [c] n (by omega) JAG
 rwa [JNZ] at this
theorem JR6 (a b:Nat):JBs false 0 ((a:Int)-(b:Int))=((a-b:Nat):Int):=by
 show (if (0:Int)<_ then _ else _)=_
 split<;>omega
theorem JIY (n w:Nat)(c:UInt8)(hn:n≤9223372036854775807)(hw:w≤1000):Jb Tryz.prog 81 [.int n,.int w,.str [c]] (.str (pad c w (Jl n))) []:=by
 have htl:=JAV (n:=n) (k:=20) (by omega) (by omega)
 have hsub:IntKind.i64.wrap ((w:Int)-((Jl n).length:Int))=(w:Int)-((Jl n).length:Int):=IntWalk.i64_in _ (by omega)
 have hmx:=JR6 w (Jl n).length
 refine Jq Jd Tryz.func81 rfl (by simp only [List.length_cons,List.length_nil,Tryz.ntmps81];omega) JH rfl ?_
 refine JB.reg ?_
 have X:=Fx.mk hmx
 refine JA.o1 JAk ?_
 refine JA.nil (JB.reg ?_)
 refine JA.o1 JAk ?_
 refine JA.c1 (JGq n hn) JAk JAk ?_
 refine JA.o1 JAk ?_
 refine JA.nil (JB.reg ?_)
 iterate 4 (refine JA.o1 JAk ?_)
 refine JA.o1 V71 ?_
 refine JA.o1 JAk ?_
 refine JA.c1 (JPn c (w-(Jl n).length) (by omega)) JAk JAk ?_
 refine JA.o1 JAk ?_
 refine JA.o1 V71 ?_
 refine JA.o1 JAk ?_
 refine JA.nil ?_
 exact Ends.fin [] (rs:=[.tmp 6]) rfl JAk (by simp only [go_sem,X.h,pad]<;>first|rfl|exact QV)
theorem JE4 (l:Bs)(hl:l.length≤1000000):Jb Tryz.prog 82 [.str l] (.str (chk l)) []:=by
 have hch:chk l=Jl (Y5 l%10):=rfl
 refine Jq Jd Tryz.func82 rfl (by simp only [List.length_cons,List.length_nil,Tryz.ntmps82];omega) JH rfl ?_
 refine JB.reg ?_
 have X:=Fx.mk hch
 refine JA.o1 JC ?_
 refine JA.nil (JB.reg ?_)
 refine JA.o1 JC ?_
 refine JA.nil (JB.assocS (JB.reg ?_))
 iterate 2 (refine JA.o1 JC ?_)
 refine JA.nil (JB.blk ?_)
 refine JB.whl [3,7] [7] (fun (p:Nat)=>[.slot 3 (.int (Y5 (l.take p))),.slot 7 (.leaf (.obj 7)),.obj 7 (.sit (bs l) p)]) (fun p=>p≤l.length) (fun p=>l.length-p) (0) (fun p=>by simp only [go_sem]<;>rfl) JGW ?_ (fun p hX=>?_)
 ·exact Nat.zero_le _
 ·skip
  have hbd:=JQ0 l p hl
  by_cases hp:p<l.length
  ·skip
   refine JB.reg ?_
   have X:=X.a hp
   iterate 2 (refine JA.o1 JC ?_)
   refine JA.nil ?_
   refine JB.cndS JC (fun hb9=>?_) (fun hb9=>?_)
   ·skip
    refine JB.skipS (JB.blk1 (JB.reg ?_))
    iterate 2 (refine JA.o1 JC ?_)
    refine JA.nil (JB.reg ?_)
    iterate 3 (refine JA.o1 JC ?_)
    iterate 2 (refine JA.gop JD JC JD ?_)
    refine JA.o1 JC ?_
    refine JA.nil ?_
    refine JB.cnd JC (fun hb16=>?_) (fun hb16=>?_)
    ·skip
     have h1:48≤(Utf8.decode (bs l) p).1∧(Utf8.decode (bs l) p).1≤57:=by
      have h:=hb16
      rw [Bool.and_eq_true] at h
      have h1:=of_decide_eq_true h.1
      have h2:=of_decide_eq_true h.2
      omega
     obtain ⟨g1,g2,g3⟩:=JNq hp h1.1 h1.2
     have g4:=JQ1 l p hp g3
     have hw1:IntKind.i32.wrap (((Utf8.decode (bs l) p).1:Int)-48)=(((Utf8.decode (bs l) p).1-48:Nat):Int):=by rw [IntWalk.i32_in _ (by omega)];omega
     have hw2:IntKind.i64.wrap (((Utf8.decode (bs l) p).1-48:Nat):Int)=(((Utf8.decode (bs l) p).1-48:Nat):Int):=IntWalk.i64_in _ (by omega)
     have hw3:IntKind.i64.wrap ((Y5 (l.take p):Int)+(((Utf8.decode (bs l) p).1-48:Nat):Int))=(Y5 (l.take (p+(Utf8.decode (bs l) p).2)):Int):=by rw [g1,g4,g2,IntWalk.i64_in _ (by omega)];omega
     refine JB.reg1 ?_
     have X:=((X.a hw1).a hw2).a hw3
     iterate 2 (refine JA.o1 JC ?_)
     iterate 3 (refine JA.o1 QC ?_)
     refine JA.o1 JC ?_
     refine JA.nil (Q5.nrm ?_)
     refine ZE.nxt (p+(Utf8.decode (bs l) p).2) ?_ ?_ ?_
     ·show l.length-(p+(Utf8.decode (bs l) p).2)<l.length-p;omega
     ·show p+(Utf8.decode (bs l) p).2≤l.length;omega
     ·exact JO.kp [3,7] [7] Zl
    ·skip
     have h1:¬(48≤(Utf8.decode (bs l) p).1∧(Utf8.decode (bs l) p).1≤57):=by
      intro ⟨h1,h2⟩
      have h:=hb16
      rw [decide_eq_true (by omega),decide_eq_true (by omega)] at h
      cases h
     obtain ⟨g1,g2,g3⟩:=JT7 hp h1
     have g4:=JQ3 l p _ g2 g3
     refine Q5.nrm ?_
     refine ZE.nxt (p+(Utf8.decode (bs l) p).2) ?_ ?_ ?_
     ·show l.length-(p+(Utf8.decode (bs l) p).2)<l.length-p;omega
     ·show p+(Utf8.decode (bs l) p).2≤l.length;exact g2
     ·exact JO.kp [3,7] [7] (by simp only [go_sem,hch,hp,g4]<;>first|exact QV|rfl)
   ·exact absurd hb9 (by simp)
  ·skip
   have hpe:p=l.length:=by omega
   subst hpe
   have htk:l.take l.length=l:=List.take_length
   have hm:Int.tmod ((Y5 l:Nat):Int) 10=((Y5 l%10:Nat):Int):=by rw [Int.tmod_eq_emod_of_nonneg (by omega)];omega
   refine JB.reg ?_
   have X:=((X.a hp).a htk).a hm
   iterate 2 (refine JA.o1 JC ?_)
   refine JA.nil ?_
   refine JB.cndS JC (fun hb9=>?_) (fun hb9=>?_)
   ·exact absurd hb9 (by simp)
   ·skip
    refine JB.exitS (ZE.ext (JP.hit (JB.reg ?_)))
    refine JA.o1 JC ?_
    refine JA.o1 QC ?_
    refine JA.c1 (JGq (Y5 l%10) (by omega)) JC JC ?_
    refine JA.o1 JC ?_
    refine JA.nil ?_
    exact Ends.fin [] (rs:=[.tmp 2]) rfl JC Qp
theorem JE5:Jb Tryz.prog 132 [] (.val true [.d (.i 6),.d (.i 7),.d (.i 7)]) []:=by
 refine Jq Jd Tryz.func132 rfl (by simp only [List.length_cons,List.length_nil,Tryz.ntmps132];omega) JH rfl ?_
 refine JB.reg ?_
 refine JA.o ?_
 refine JA.nil (JB.reg ?_)
 iterate 2 (refine JA.o ?_)
 refine JA.nil ?_
 exact Ends.fin [] (rs:=[.cell 0 209]) rfl JD Yn
end Go.Mw
