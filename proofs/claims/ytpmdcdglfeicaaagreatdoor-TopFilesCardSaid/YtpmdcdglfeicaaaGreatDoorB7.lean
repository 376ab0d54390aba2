/- Closed facts on the program's table of types. -/
import Derived.Test.YtpmdcdglfeicaaaGreatDoorD1
import Derived.Test.YtpmdcdglfeicaaaGreatDoorProg
import Derived.Test.YtpmdcdglfeicaaaGreatDoorB4
import Derived.Shelf.Lays
import Derived.Shelf.LaysM
import GoSem.Extern.Twins
import Derived.Test.YtpmdcdglfeicaaaGreatDoorB5
import Derived.Shelf.Strings.Prefix
import Derived.Shelf.Strings.OnBuilder
import Derived.Shelf.Strings.Repeat
import Derived.Shelf.Strings.Trim
import Derived.Shelf.Strings.SplitShaped
import Derived.Shelf.Strings.Shaped
import Derived.Shelf.Strconv.Itoa3
import Derived.Shelf.Small.Bits
import Derived.Lib.AppendIntMem
import Derived.WalkSmall
import Derived.Lib.ItoaLen
import Derived.Lib.Join
import Derived.Lib.Repeat
import Derived.Lib.TrimByte
import Derived.Lib.Strings
import Derived.Lib.BitFns
import Derived.Laws.RangeAny
import Derived.Laws.RangeString
import Derived.Test.YtpmdcdglfeicaaaGreatDoorB6
set_option maxRecDepth 100000
set_option maxHeartbeats 2000000
set_option linter.unusedSimpArgs false
set_option linter.unusedVariables false
set_option linter.unusedSectionVars false
set_option linter.deprecated false
namespace Go.Mw
open Go.Proofs
@[go_sem] theorem JW8:Jl Tryz.prog 3=some 1∧QD Tryz.prog 3=some 8∧J0 Tryz.prog 3=some false∧Jt Tryz.prog 3=none∧J9 Tryz.prog 3=some IntKind.i64∧J6 Tryz.prog 3=false∧QJ Tryz.prog 3=false∧QI Tryz.prog 3=none∧QC Tryz.prog 3=none∧J2 Tryz.prog 3=none∧QL Tryz.prog 3=none∧Jz Tryz.prog 3=some (false,[D.raw (Value.int IntKind.i64 (0))])∧Program.concrete Tryz.prog 3=true:=by and_intros<;>kernel_rfl
@[go_sem] theorem JXC:Jl Tryz.prog 4=some 1∧QD Tryz.prog 4=some 1∧J0 Tryz.prog 4=some false∧Jt Tryz.prog 4=none∧J9 Tryz.prog 4=none∧J6 Tryz.prog 4=false∧QJ Tryz.prog 4=true∧QI Tryz.prog 4=none∧QC Tryz.prog 4=none∧J2 Tryz.prog 4=none∧QL Tryz.prog 4=none∧Jz Tryz.prog 4=some (false,[D.raw (Value.bool false)])∧Program.concrete Tryz.prog 4=true:=by and_intros<;>kernel_rfl
@[go_sem] theorem JXF:Jl Tryz.prog 5=some 1∧QD Tryz.prog 5=some 1∧J0 Tryz.prog 5=some false∧Jt Tryz.prog 5=none∧J9 Tryz.prog 5=some IntKind.u8∧J6 Tryz.prog 5=false∧QJ Tryz.prog 5=false∧QI Tryz.prog 5=none∧QC Tryz.prog 5=none∧J2 Tryz.prog 5=none∧QL Tryz.prog 5=none∧Jz Tryz.prog 5=some (false,[D.raw (Value.int IntKind.u8 (0))])∧Program.concrete Tryz.prog 5=true:=by and_intros<;>kernel_rfl
@[go_sem] theorem JXK:Jl Tryz.prog 9=some 1∧QD Tryz.prog 9=some 16∧J0 Tryz.prog 9=some false∧Jt Tryz.prog 9=none∧J9 Tryz.prog 9=none∧J6 Tryz.prog 9=true∧QJ Tryz.prog 9=false∧QI Tryz.prog 9=none∧QC Tryz.prog 9=none∧J2 Tryz.prog 9=none∧QL Tryz.prog 9=none∧Jz Tryz.prog 9=some (false,[D.raw (Value.string (ByteArray.mk (List.toArray [])))])∧Program.concrete Tryz.prog 9=true:=by and_intros<;>kernel_rfl
@[go_sem] theorem JWp:Jl Tryz.prog 20=some 1∧QD Tryz.prog 20=some 16∧J0 Tryz.prog 20=some false∧Jt Tryz.prog 20=none∧J9 Tryz.prog 20=none∧J6 Tryz.prog 20=false∧QJ Tryz.prog 20=false∧QI Tryz.prog 20=none∧QC Tryz.prog 20=none∧J2 Tryz.prog 20=none∧QL Tryz.prog 20=none∧Jz Tryz.prog 20=some (false,[D.raw Value.nilIface])∧Program.concrete Tryz.prog 20=false:=by and_intros<;>kernel_rfl
@[go_sem] theorem JWr:Jl Tryz.prog 21=some 1∧QD Tryz.prog 21=some 4∧J0 Tryz.prog 21=some false∧Jt Tryz.prog 21=none∧J9 Tryz.prog 21=some IntKind.i32∧J6 Tryz.prog 21=false∧QJ Tryz.prog 21=false∧QI Tryz.prog 21=none∧QC Tryz.prog 21=none∧J2 Tryz.prog 21=none∧QL Tryz.prog 21=none∧Jz Tryz.prog 21=some (false,[D.raw (Value.int IntKind.i32 (0))])∧Program.concrete Tryz.prog 21=true:=by and_intros<;>kernel_rfl
@[go_sem] theorem JWs:Jl Tryz.prog 22=some 1∧QD Tryz.prog 22=some 24∧J0 Tryz.prog 22=some false∧Jt Tryz.prog 22=some 48∧J9 Tryz.prog 22=none∧J6 Tryz.prog 22=false∧QJ Tryz.prog 22=false∧QI Tryz.prog 22=none∧QC Tryz.prog 22=none∧J2 Tryz.prog 22=none∧QL Tryz.prog 22=none∧Jz Tryz.prog 22=some (false,[D.raw (Value.slice none 0 0)])∧Program.concrete Tryz.prog 22=true:=by and_intros<;>kernel_rfl
@[go_sem] theorem JWv:Jl Tryz.prog 23=some 1∧QD Tryz.prog 23=some 24∧J0 Tryz.prog 23=some false∧Jt Tryz.prog 23=some 34∧J9 Tryz.prog 23=none∧J6 Tryz.prog 23=false∧QJ Tryz.prog 23=false∧QI Tryz.prog 23=none∧QC Tryz.prog 23=none∧J2 Tryz.prog 23=none∧QL Tryz.prog 23=none∧Jz Tryz.prog 23=some (false,[D.raw (Value.slice none 0 0)])∧Program.concrete Tryz.prog 23=true:=by and_intros<;>kernel_rfl
@[go_sem] theorem JWx:Jl Tryz.prog 25=some 2∧QD Tryz.prog 25=some 48∧J0 Tryz.prog 25=some true∧Jt Tryz.prog 25=none∧J9 Tryz.prog 25=none∧J6 Tryz.prog 25=false∧QJ Tryz.prog 25=false∧QI Tryz.prog 25=none∧QC Tryz.prog 25=none∧J2 Tryz.prog 25=none∧QL Tryz.prog 25=some [(0,1),(1,1)]∧Jz Tryz.prog 25=some (true,[D.raw (Value.slice none 0 0),D.raw (Value.slice none 0 0)])∧Program.concrete Tryz.prog 25=true:=by and_intros<;>kernel_rfl
@[go_sem] theorem JW4:Jl Tryz.prog 28=some 1∧QD Tryz.prog 28=some 24∧J0 Tryz.prog 28=some false∧Jt Tryz.prog 28=some 31∧J9 Tryz.prog 28=none∧J6 Tryz.prog 28=false∧QJ Tryz.prog 28=false∧QI Tryz.prog 28=none∧QC Tryz.prog 28=none∧J2 Tryz.prog 28=none∧QL Tryz.prog 28=none∧Jz Tryz.prog 28=some (false,[D.raw (Value.slice none 0 0)])∧Program.concrete Tryz.prog 28=true:=by and_intros<;>kernel_rfl
@[go_sem] theorem JW7:Jl Tryz.prog 29=some 1∧QD Tryz.prog 29=some 24∧J0 Tryz.prog 29=some false∧Jt Tryz.prog 29=some 3∧J9 Tryz.prog 29=none∧J6 Tryz.prog 29=false∧QJ Tryz.prog 29=false∧QI Tryz.prog 29=none∧QC Tryz.prog 29=none∧J2 Tryz.prog 29=none∧QL Tryz.prog 29=none∧Jz Tryz.prog 29=some (false,[D.raw (Value.slice none 0 0)])∧Program.concrete Tryz.prog 29=true:=by and_intros<;>kernel_rfl
@[go_sem] theorem JW9:Jl Tryz.prog 31=some 2∧QD Tryz.prog 31=some 32∧J0 Tryz.prog 31=some true∧Jt Tryz.prog 31=none∧J9 Tryz.prog 31=none∧J6 Tryz.prog 31=false∧QJ Tryz.prog 31=false∧QI Tryz.prog 31=none∧QC Tryz.prog 31=none∧J2 Tryz.prog 31=none∧QL Tryz.prog 31=some [(0,1),(1,1)]∧Jz Tryz.prog 31=some (true,[D.raw (Value.int IntKind.i64 (0)),D.raw (Value.slice none 0 0)])∧Program.concrete Tryz.prog 31=true:=by and_intros<;>kernel_rfl
@[go_sem] theorem JXA:Jl Tryz.prog 34=some 3∧QD Tryz.prog 34=some 24∧J0 Tryz.prog 34=some true∧Jt Tryz.prog 34=none∧J9 Tryz.prog 34=none∧J6 Tryz.prog 34=false∧QJ Tryz.prog 34=false∧QI Tryz.prog 34=none∧QC Tryz.prog 34=none∧J2 Tryz.prog 34=some 3∧QL Tryz.prog 34=some [(0,1),(1,1),(2,1)]∧Jz Tryz.prog 34=some (true,[D.raw (Value.int IntKind.i64 (0)),D.raw (Value.int IntKind.i64 (0)),D.raw (Value.int IntKind.i64 (0))])∧Program.concrete Tryz.prog 34=true:=by and_intros<;>kernel_rfl
@[go_sem] theorem JXB:Jl Tryz.prog 35=some 1∧QD Tryz.prog 35=some 8∧J0 Tryz.prog 35=some false∧Jt Tryz.prog 35=none∧J9 Tryz.prog 35=some IntKind.i64∧J6 Tryz.prog 35=false∧QJ Tryz.prog 35=false∧QI Tryz.prog 35=none∧QC Tryz.prog 35=none∧J2 Tryz.prog 35=none∧QL Tryz.prog 35=none∧Jz Tryz.prog 35=some (false,[D.raw (Value.int IntKind.i64 (0))])∧Program.concrete Tryz.prog 35=true:=by and_intros<;>kernel_rfl
@[go_sem] theorem JXD:Jl Tryz.prog 43=some 1∧QD Tryz.prog 43=some 24∧J0 Tryz.prog 43=some false∧Jt Tryz.prog 43=some 105∧J9 Tryz.prog 43=none∧J6 Tryz.prog 43=false∧QJ Tryz.prog 43=false∧QI Tryz.prog 43=none∧QC Tryz.prog 43=none∧J2 Tryz.prog 43=none∧QL Tryz.prog 43=none∧Jz Tryz.prog 43=some (false,[D.raw (Value.slice none 0 0)])∧Program.concrete Tryz.prog 43=true:=by and_intros<;>kernel_rfl
@[go_sem] theorem JXE:Jl Tryz.prog 48=some 2∧QD Tryz.prog 48=some 16∧J0 Tryz.prog 48=some true∧Jt Tryz.prog 48=none∧J9 Tryz.prog 48=none∧J6 Tryz.prog 48=false∧QJ Tryz.prog 48=false∧QI Tryz.prog 48=none∧QC Tryz.prog 48=none∧J2 Tryz.prog 48=some 2∧QL Tryz.prog 48=some [(0,1),(1,1)]∧Jz Tryz.prog 48=some (true,[D.raw (Value.int IntKind.i64 (0)),D.raw (Value.int IntKind.i64 (0))])∧Program.concrete Tryz.prog 48=true:=by and_intros<;>kernel_rfl
@[go_sem] theorem JXG:Jl Tryz.prog 53=some 1∧QD Tryz.prog 53=some 24∧J0 Tryz.prog 53=some false∧Jt Tryz.prog 53=some 5∧J9 Tryz.prog 53=none∧J6 Tryz.prog 53=false∧QJ Tryz.prog 53=false∧QI Tryz.prog 53=none∧QC Tryz.prog 53=none∧J2 Tryz.prog 53=none∧QL Tryz.prog 53=none∧Jz Tryz.prog 53=some (false,[D.raw (Value.slice none 0 0)])∧Program.concrete Tryz.prog 53=true:=by and_intros<;>kernel_rfl
@[go_sem] theorem JXH:Jl Tryz.prog 65=some 1∧QD Tryz.prog 65=some 8∧J0 Tryz.prog 65=some false∧Jt Tryz.prog 65=none∧J9 Tryz.prog 65=none∧J6 Tryz.prog 65=false∧QJ Tryz.prog 65=false∧QI Tryz.prog 65=none∧QC Tryz.prog 65=none∧J2 Tryz.prog 65=none∧QL Tryz.prog 65=none∧Jz Tryz.prog 65=some (false,[D.raw Value.nilFunc])∧Program.concrete Tryz.prog 65=true:=by and_intros<;>kernel_rfl
@[go_sem] theorem JXI:Jl Tryz.prog 86=some 1∧QD Tryz.prog 86=some 8∧J0 Tryz.prog 86=some false∧Jt Tryz.prog 86=none∧J9 Tryz.prog 86=none∧J6 Tryz.prog 86=false∧QJ Tryz.prog 86=false∧QI Tryz.prog 86=none∧QC Tryz.prog 86=none∧J2 Tryz.prog 86=none∧QL Tryz.prog 86=none∧Jz Tryz.prog 86=some (false,[D.raw (Value.pointer none)])∧Program.concrete Tryz.prog 86=true:=by and_intros<;>kernel_rfl
@[go_sem] theorem JXJ:Jl Tryz.prog 88=some 2∧QD Tryz.prog 88=some 32∧J0 Tryz.prog 88=some true∧Jt Tryz.prog 88=none∧J9 Tryz.prog 88=none∧J6 Tryz.prog 88=false∧QJ Tryz.prog 88=false∧QI Tryz.prog 88=none∧QC Tryz.prog 88=none∧J2 Tryz.prog 88=none∧QL Tryz.prog 88=some [(0,1),(1,1)]∧Jz Tryz.prog 88=some (true,[D.raw (Value.pointer none),D.raw (Value.slice none 0 0)])∧Program.concrete Tryz.prog 88=true:=by and_intros<;>kernel_rfl
@[go_sem] theorem JXL:Jl Tryz.prog 90=some 2∧QD Tryz.prog 90=some 32∧J0 Tryz.prog 90=some true∧Jt Tryz.prog 90=none∧J9 Tryz.prog 90=none∧J6 Tryz.prog 90=false∧QJ Tryz.prog 90=false∧QI Tryz.prog 90=none∧QC Tryz.prog 90=none∧J2 Tryz.prog 90=none∧QL Tryz.prog 90=some [(0,2)]∧Jz Tryz.prog 90=some (true,[D.raw (Value.pointer none),D.raw (Value.slice none 0 0)])∧Program.concrete Tryz.prog 90=true:=by and_intros<;>kernel_rfl
@[go_sem] theorem JXM:Jl Tryz.prog 92=some 1∧QD Tryz.prog 92=some 24∧J0 Tryz.prog 92=some false∧Jt Tryz.prog 92=some 9∧J9 Tryz.prog 92=none∧J6 Tryz.prog 92=false∧QJ Tryz.prog 92=false∧QI Tryz.prog 92=none∧QC Tryz.prog 92=none∧J2 Tryz.prog 92=none∧QL Tryz.prog 92=none∧Jz Tryz.prog 92=some (false,[D.raw (Value.slice none 0 0)])∧Program.concrete Tryz.prog 92=true:=by and_intros<;>kernel_rfl
@[go_sem] theorem JXN:Jl Tryz.prog 93=some 1∧QD Tryz.prog 93=some 24∧J0 Tryz.prog 93=some false∧Jt Tryz.prog 93=some 96∧J9 Tryz.prog 93=none∧J6 Tryz.prog 93=false∧QJ Tryz.prog 93=false∧QI Tryz.prog 93=none∧QC Tryz.prog 93=none∧J2 Tryz.prog 93=none∧QL Tryz.prog 93=none∧Jz Tryz.prog 93=some (false,[D.raw (Value.slice none 0 0)])∧Program.concrete Tryz.prog 93=true:=by and_intros<;>kernel_rfl
@[go_sem] theorem JXO:Jl Tryz.prog 96=some 2∧QD Tryz.prog 96=some 16∧J0 Tryz.prog 96=some true∧Jt Tryz.prog 96=none∧J9 Tryz.prog 96=none∧J6 Tryz.prog 96=false∧QJ Tryz.prog 96=false∧QI Tryz.prog 96=none∧QC Tryz.prog 96=none∧J2 Tryz.prog 96=some 2∧QL Tryz.prog 96=some [(0,1),(1,1)]∧Jz Tryz.prog 96=some (true,[D.raw (Value.int IntKind.i64 (0)),D.raw (Value.int IntKind.i64 (0))])∧Program.concrete Tryz.prog 96=true:=by and_intros<;>kernel_rfl
@[go_sem] theorem JWY:Jl Tryz.prog 105=some 4∧QD Tryz.prog 105=some 32∧J0 Tryz.prog 105=some true∧Jt Tryz.prog 105=none∧J9 Tryz.prog 105=none∧J6 Tryz.prog 105=false∧QJ Tryz.prog 105=false∧QI Tryz.prog 105=none∧QC Tryz.prog 105=none∧J2 Tryz.prog 105=some 4∧QL Tryz.prog 105=some [(0,1),(1,1),(2,1),(3,1)]∧Jz Tryz.prog 105=some (true,[D.raw (Value.int IntKind.i64 (0)),D.raw (Value.int IntKind.i64 (0)),D.raw (Value.int IntKind.i64 (0)),D.raw (Value.int IntKind.i64 (0))])∧Program.concrete Tryz.prog 105=true:=by and_intros<;>kernel_rfl
@[go_sem] theorem JWZ:Jl Tryz.prog 107=some 2∧QD Tryz.prog 107=some 16∧J0 Tryz.prog 107=some true∧Jt Tryz.prog 107=none∧J9 Tryz.prog 107=none∧J6 Tryz.prog 107=false∧QJ Tryz.prog 107=false∧QI Tryz.prog 107=none∧QC Tryz.prog 107=none∧J2 Tryz.prog 107=some 2∧QL Tryz.prog 107=some [(0,1),(1,1)]∧Jz Tryz.prog 107=some (true,[D.raw (Value.int IntKind.i64 (0)),D.raw (Value.int IntKind.i64 (0))])∧Program.concrete Tryz.prog 107=true:=by and_intros<;>kernel_rfl
@[go_sem] theorem JWa:Jl Tryz.prog 112=some 4∧QD Tryz.prog 112=some 32∧J0 Tryz.prog 112=some true∧Jt Tryz.prog 112=none∧J9 Tryz.prog 112=none∧J6 Tryz.prog 112=false∧QJ Tryz.prog 112=false∧QI Tryz.prog 112=none∧QC Tryz.prog 112=none∧J2 Tryz.prog 112=none∧QL Tryz.prog 112=some [(0,3),(3,1)]∧Jz Tryz.prog 112=some (true,[D.raw (Value.int IntKind.i64 (0)),D.raw (Value.int IntKind.i64 (0)),D.raw (Value.int IntKind.i64 (0)),D.raw (Value.int IntKind.i64 (0))])∧Program.concrete Tryz.prog 112=true:=by and_intros<;>kernel_rfl
@[go_sem] theorem JWb:Jl Tryz.prog 157=some 1∧QD Tryz.prog 157=some 8∧J0 Tryz.prog 157=some false∧Jt Tryz.prog 157=none∧J9 Tryz.prog 157=none∧J6 Tryz.prog 157=false∧QJ Tryz.prog 157=false∧QI Tryz.prog 157=none∧QC Tryz.prog 157=none∧J2 Tryz.prog 157=none∧QL Tryz.prog 157=none∧Jz Tryz.prog 157=some (false,[D.raw Value.nilFunc])∧Program.concrete Tryz.prog 157=true:=by and_intros<;>kernel_rfl
@[go_sem] theorem JWc:Jl Tryz.prog 158=some 1∧QD Tryz.prog 158=some 8∧J0 Tryz.prog 158=some false∧Jt Tryz.prog 158=none∧J9 Tryz.prog 158=none∧J6 Tryz.prog 158=false∧QJ Tryz.prog 158=false∧QI Tryz.prog 158=none∧QC Tryz.prog 158=none∧J2 Tryz.prog 158=none∧QL Tryz.prog 158=none∧Jz Tryz.prog 158=some (false,[D.raw Value.nilFunc])∧Program.concrete Tryz.prog 158=true:=by and_intros<;>kernel_rfl
@[go_sem] theorem JWd:Jl Tryz.prog 162=some 1∧QD Tryz.prog 162=some 8∧J0 Tryz.prog 162=some false∧Jt Tryz.prog 162=none∧J9 Tryz.prog 162=none∧J6 Tryz.prog 162=false∧QJ Tryz.prog 162=false∧QI Tryz.prog 162=none∧QC Tryz.prog 162=none∧J2 Tryz.prog 162=none∧QL Tryz.prog 162=none∧Jz Tryz.prog 162=some (false,[D.raw Value.nilFunc])∧Program.concrete Tryz.prog 162=true:=by and_intros<;>kernel_rfl
@[go_sem] theorem JWe:Jl Tryz.prog 163=some 1∧QD Tryz.prog 163=some 8∧J0 Tryz.prog 163=some false∧Jt Tryz.prog 163=none∧J9 Tryz.prog 163=none∧J6 Tryz.prog 163=false∧QJ Tryz.prog 163=false∧QI Tryz.prog 163=none∧QC Tryz.prog 163=none∧J2 Tryz.prog 163=none∧QL Tryz.prog 163=none∧Jz Tryz.prog 163=some (false,[D.raw Value.nilFunc])∧Program.concrete Tryz.prog 163=true:=by and_intros<;>kernel_rfl
@[go_sem] theorem JWf:Jl Tryz.prog 166=some 1∧QD Tryz.prog 166=some 16∧J0 Tryz.prog 166=some false∧Jt Tryz.prog 166=none∧J9 Tryz.prog 166=none∧J6 Tryz.prog 166=false∧QJ Tryz.prog 166=false∧QI Tryz.prog 166=none∧QC Tryz.prog 166=none∧J2 Tryz.prog 166=none∧QL Tryz.prog 166=none∧Jz Tryz.prog 166=some (false,[D.raw Value.nilIface])∧Program.concrete Tryz.prog 166=false:=by and_intros<;>kernel_rfl
@[go_sem] theorem JWg:Jl Tryz.prog 170=some 1∧QD Tryz.prog 170=some 8∧J0 Tryz.prog 170=some false∧Jt Tryz.prog 170=none∧J9 Tryz.prog 170=none∧J6 Tryz.prog 170=false∧QJ Tryz.prog 170=false∧QI Tryz.prog 170=none∧QC Tryz.prog 170=none∧J2 Tryz.prog 170=none∧QL Tryz.prog 170=none∧Jz Tryz.prog 170=some (false,[D.raw (Value.pointer none)])∧Program.concrete Tryz.prog 170=true:=by and_intros<;>kernel_rfl
@[go_sem] theorem JWh:Jl Tryz.prog 172=some 1∧QD Tryz.prog 172=some 8∧J0 Tryz.prog 172=some true∧Jt Tryz.prog 172=none∧J9 Tryz.prog 172=none∧J6 Tryz.prog 172=false∧QJ Tryz.prog 172=false∧QI Tryz.prog 172=none∧QC Tryz.prog 172=none∧J2 Tryz.prog 172=some 1∧QL Tryz.prog 172=some [(0,1)]∧Jz Tryz.prog 172=some (true,[D.raw (Value.int IntKind.i64 (0))])∧Program.concrete Tryz.prog 172=true:=by and_intros<;>kernel_rfl
@[go_sem] theorem JWi:Jl Tryz.prog 182=some 1∧QD Tryz.prog 182=some 16∧J0 Tryz.prog 182=some false∧Jt Tryz.prog 182=none∧J9 Tryz.prog 182=none∧J6 Tryz.prog 182=false∧QJ Tryz.prog 182=false∧QI Tryz.prog 182=none∧QC Tryz.prog 182=none∧J2 Tryz.prog 182=none∧QL Tryz.prog 182=none∧Jz Tryz.prog 182=some (false,[D.raw Value.nilIface])∧Program.concrete Tryz.prog 182=false:=by and_intros<;>kernel_rfl
@[go_sem] theorem JWj:Jl Tryz.prog 185=some 2∧QD Tryz.prog 185=some 16∧J0 Tryz.prog 185=some true∧Jt Tryz.prog 185=none∧J9 Tryz.prog 185=none∧J6 Tryz.prog 185=false∧QJ Tryz.prog 185=false∧QI Tryz.prog 185=none∧QC Tryz.prog 185=none∧J2 Tryz.prog 185=some 2∧QL Tryz.prog 185=some [(0,1),(1,1)]∧Jz Tryz.prog 185=some (true,[D.raw (Value.int IntKind.i64 (0)),D.raw (Value.int IntKind.i64 (0))])∧Program.concrete Tryz.prog 185=true:=by and_intros<;>kernel_rfl
@[go_sem] theorem JWk:Jl Tryz.prog 187=some 1∧QD Tryz.prog 187=some 8∧J0 Tryz.prog 187=some true∧Jt Tryz.prog 187=none∧J9 Tryz.prog 187=none∧J6 Tryz.prog 187=false∧QJ Tryz.prog 187=false∧QI Tryz.prog 187=none∧QC Tryz.prog 187=none∧J2 Tryz.prog 187=some 1∧QL Tryz.prog 187=some [(0,1)]∧Jz Tryz.prog 187=some (true,[D.raw (Value.int IntKind.i64 (0))])∧Program.concrete Tryz.prog 187=true:=by and_intros<;>kernel_rfl
@[go_sem] theorem JWl:Jl Tryz.prog 189=some 2∧QD Tryz.prog 189=some 16∧J0 Tryz.prog 189=some true∧Jt Tryz.prog 189=none∧J9 Tryz.prog 189=none∧J6 Tryz.prog 189=false∧QJ Tryz.prog 189=false∧QI Tryz.prog 189=none∧QC Tryz.prog 189=none∧J2 Tryz.prog 189=some 2∧QL Tryz.prog 189=some [(0,1),(1,1)]∧Jz Tryz.prog 189=some (true,[D.raw (Value.int IntKind.i64 (0)),D.raw (Value.int IntKind.i64 (0))])∧Program.concrete Tryz.prog 189=true:=by and_intros<;>kernel_rfl
@[go_sem] theorem JWm:Jl Tryz.prog 191=some 1∧QD Tryz.prog 191=some 24∧J0 Tryz.prog 191=some false∧Jt Tryz.prog 191=some 112∧J9 Tryz.prog 191=none∧J6 Tryz.prog 191=false∧QJ Tryz.prog 191=false∧QI Tryz.prog 191=none∧QC Tryz.prog 191=none∧J2 Tryz.prog 191=none∧QL Tryz.prog 191=none∧Jz Tryz.prog 191=some (false,[D.raw (Value.slice none 0 0)])∧Program.concrete Tryz.prog 191=true:=by and_intros<;>kernel_rfl
@[go_sem] theorem JWn:Jl Tryz.prog 194=some 1∧QD Tryz.prog 194=some 8∧J0 Tryz.prog 194=some false∧Jt Tryz.prog 194=none∧J9 Tryz.prog 194=none∧J6 Tryz.prog 194=false∧QJ Tryz.prog 194=false∧QI Tryz.prog 194=none∧QC Tryz.prog 194=none∧J2 Tryz.prog 194=none∧QL Tryz.prog 194=none∧Jz Tryz.prog 194=some (false,[D.raw Value.nilFunc])∧Program.concrete Tryz.prog 194=true:=by and_intros<;>kernel_rfl
@[go_sem] theorem JWo:Jl Tryz.prog 195=some 1∧QD Tryz.prog 195=some 8∧J0 Tryz.prog 195=some false∧Jt Tryz.prog 195=none∧J9 Tryz.prog 195=none∧J6 Tryz.prog 195=false∧QJ Tryz.prog 195=false∧QI Tryz.prog 195=none∧QC Tryz.prog 195=none∧J2 Tryz.prog 195=none∧QL Tryz.prog 195=none∧Jz Tryz.prog 195=some (false,[D.raw Value.nilFunc])∧Program.concrete Tryz.prog 195=true:=by and_intros<;>kernel_rfl
@[go_sem] theorem JWq:Jl Tryz.prog 200=some 1∧QD Tryz.prog 200=some 8∧J0 Tryz.prog 200=some false∧Jt Tryz.prog 200=none∧J9 Tryz.prog 200=some IntKind.u64∧J6 Tryz.prog 200=false∧QJ Tryz.prog 200=false∧QI Tryz.prog 200=none∧QC Tryz.prog 200=none∧J2 Tryz.prog 200=none∧QL Tryz.prog 200=none∧Jz Tryz.prog 200=some (false,[D.raw (Value.int IntKind.u64 (0))])∧Program.concrete Tryz.prog 200=true:=by and_intros<;>kernel_rfl
@[go_sem] theorem JWt:Jl Tryz.prog 221=some 1∧QD Tryz.prog 221=some 8∧J0 Tryz.prog 221=some false∧Jt Tryz.prog 221=none∧J9 Tryz.prog 221=none∧J6 Tryz.prog 221=false∧QJ Tryz.prog 221=false∧QI Tryz.prog 221=none∧QC Tryz.prog 221=none∧J2 Tryz.prog 221=none∧QL Tryz.prog 221=none∧Jz Tryz.prog 221=some (false,[D.raw (Value.map none)])∧Program.concrete Tryz.prog 221=true:=by and_intros<;>kernel_rfl
@[go_sem] theorem JWu:Jl Tryz.prog 222=some 1∧QD Tryz.prog 222=some 8∧J0 Tryz.prog 222=some false∧Jt Tryz.prog 222=none∧J9 Tryz.prog 222=none∧J6 Tryz.prog 222=false∧QJ Tryz.prog 222=false∧QI Tryz.prog 222=none∧QC Tryz.prog 222=none∧J2 Tryz.prog 222=none∧QL Tryz.prog 222=none∧Jz Tryz.prog 222=some (false,[D.raw (Value.map none)])∧Program.concrete Tryz.prog 222=true:=by and_intros<;>kernel_rfl
@[go_sem] theorem JWw:Jl Tryz.prog 245=some 1∧QD Tryz.prog 245=some 8∧J0 Tryz.prog 245=some false∧Jt Tryz.prog 245=none∧J9 Tryz.prog 245=some IntKind.u64∧J6 Tryz.prog 245=false∧QJ Tryz.prog 245=false∧QI Tryz.prog 245=none∧QC Tryz.prog 245=none∧J2 Tryz.prog 245=none∧QL Tryz.prog 245=none∧Jz Tryz.prog 245=some (false,[D.raw (Value.int IntKind.u64 (0))])∧Program.concrete Tryz.prog 245=true:=by and_intros<;>kernel_rfl
@[go_sem] theorem JWy:Jl Tryz.prog 250=some 1∧QD Tryz.prog 250=some 8∧J0 Tryz.prog 250=some false∧Jt Tryz.prog 250=none∧J9 Tryz.prog 250=none∧J6 Tryz.prog 250=false∧QJ Tryz.prog 250=false∧QI Tryz.prog 250=none∧QC Tryz.prog 250=none∧J2 Tryz.prog 250=none∧QL Tryz.prog 250=none∧Jz Tryz.prog 250=some (false,[D.raw (Value.pointer none)])∧Program.concrete Tryz.prog 250=true:=by and_intros<;>kernel_rfl
@[go_sem] theorem JWz:Jl Tryz.prog 258=some 1∧QD Tryz.prog 258=some 4∧J0 Tryz.prog 258=some false∧Jt Tryz.prog 258=none∧J9 Tryz.prog 258=some IntKind.u32∧J6 Tryz.prog 258=false∧QJ Tryz.prog 258=false∧QI Tryz.prog 258=none∧QC Tryz.prog 258=none∧J2 Tryz.prog 258=none∧QL Tryz.prog 258=none∧Jz Tryz.prog 258=some (false,[D.raw (Value.int IntKind.u32 (0))])∧Program.concrete Tryz.prog 258=true:=by and_intros<;>kernel_rfl
@[go_sem] theorem JW0:Jl Tryz.prog 272=some 20∧QD Tryz.prog 272=some 160∧J0 Tryz.prog 272=some true∧Jt Tryz.prog 272=none∧J9 Tryz.prog 272=none∧J6 Tryz.prog 272=false∧QJ Tryz.prog 272=false∧QI Tryz.prog 272=some (20,1)∧QC Tryz.prog 272=some (20,1,false)∧J2 Tryz.prog 272=none∧QL Tryz.prog 272=some [(0,1),(1,1),(2,1),(3,1),(4,1),(5,1),(6,1),(7,1),(8,1),(9,1),(10,1),(11,1),(12,1),(13,1),(14,1),(15,1),(16,1),(17,1),(18,1),(19,1)]∧Program.concrete Tryz.prog 272=true:=by and_intros<;>kernel_rfl
@[go_sem] theorem JW1:Jl Tryz.prog 276=some 256∧QD Tryz.prog 276=some 256∧J0 Tryz.prog 276=some true∧Jt Tryz.prog 276=none∧J9 Tryz.prog 276=none∧J6 Tryz.prog 276=false∧QJ Tryz.prog 276=false∧QI Tryz.prog 276=some (256,1)∧QC Tryz.prog 276=some (256,1,false)∧J2 Tryz.prog 276=none∧Program.concrete Tryz.prog 276=true:=by and_intros<;>kernel_rfl
@[go_sem] theorem JW2:Jl Tryz.prog 278=some 2∧QD Tryz.prog 278=some 2∧J0 Tryz.prog 278=some true∧Jt Tryz.prog 278=none∧J9 Tryz.prog 278=none∧J6 Tryz.prog 278=false∧QJ Tryz.prog 278=false∧QI Tryz.prog 278=none∧QC Tryz.prog 278=none∧J2 Tryz.prog 278=some 2∧QL Tryz.prog 278=some [(0,1),(1,1)]∧Jz Tryz.prog 278=some (true,[D.raw (Value.int IntKind.u8 (0)),D.raw (Value.int IntKind.u8 (0))])∧Program.concrete Tryz.prog 278=true:=by and_intros<;>kernel_rfl
@[go_sem] theorem JW3:Jl Tryz.prog 279=some 32∧QD Tryz.prog 279=some 32∧J0 Tryz.prog 279=some true∧Jt Tryz.prog 279=none∧J9 Tryz.prog 279=none∧J6 Tryz.prog 279=false∧QJ Tryz.prog 279=false∧QI Tryz.prog 279=some (16,2)∧QC Tryz.prog 279=some (16,2,true)∧J2 Tryz.prog 279=none∧QL Tryz.prog 279=some [(0,2),(2,2),(4,2),(6,2),(8,2),(10,2),(12,2),(14,2),(16,2),(18,2),(20,2),(22,2),(24,2),(26,2),(28,2),(30,2)]∧Program.concrete Tryz.prog 279=true:=by and_intros<;>kernel_rfl
@[go_sem] theorem JW5:Jl Tryz.prog 281=some 32∧QD Tryz.prog 281=some 32∧J0 Tryz.prog 281=some true∧Jt Tryz.prog 281=none∧J9 Tryz.prog 281=none∧J6 Tryz.prog 281=false∧QJ Tryz.prog 281=false∧QI Tryz.prog 281=some (32,1)∧QC Tryz.prog 281=some (32,1,false)∧J2 Tryz.prog 281=none∧QL Tryz.prog 281=some [(0,1),(1,1),(2,1),(3,1),(4,1),(5,1),(6,1),(7,1),(8,1),(9,1),(10,1),(11,1),(12,1),(13,1),(14,1),(15,1),(16,1),(17,1),(18,1),(19,1),(20,1),(21,1),(22,1),(23,1),(24,1),(25,1),(26,1),(27,1),(28,1),(29,1),(30,1),(31,1)]∧Program.concrete Tryz.prog 281=true:=by and_intros<;>kernel_rfl
@[go_sem] theorem JW6:Jl Tryz.prog 282=some 64∧QD Tryz.prog 282=some 64∧J0 Tryz.prog 282=some true∧Jt Tryz.prog 282=none∧J9 Tryz.prog 282=none∧J6 Tryz.prog 282=false∧QJ Tryz.prog 282=false∧QI Tryz.prog 282=some (64,1)∧QC Tryz.prog 282=some (64,1,false)∧J2 Tryz.prog 282=none∧Program.concrete Tryz.prog 282=true:=by and_intros<;>kernel_rfl
@[go_sem] theorem JXV:JHp Tryz.prog 86=true:=by kernel_rfl
@[go_sem] theorem JXS:QT Tryz.prog 25 0=some (0,1)∧QT Tryz.prog 25 1=some (1,1)∧QT Tryz.prog 31 0=some (0,1)∧QT Tryz.prog 31 1=some (1,1)∧QT Tryz.prog 34 0=some (0,1)∧QT Tryz.prog 34 1=some (1,1)∧QT Tryz.prog 34 2=some (2,1)∧QT Tryz.prog 48 0=some (0,1)∧QT Tryz.prog 48 1=some (1,1)∧QT Tryz.prog 68 0=some (0,1)∧QT Tryz.prog 68 1=some (1,1)∧QT Tryz.prog 70 0=some (0,1)∧QT Tryz.prog 70 1=some (1,1)∧QT Tryz.prog 70 2=some (2,1)∧QT Tryz.prog 88 0=some (0,1)∧QT Tryz.prog 88 1=some (1,1)∧QT Tryz.prog 90 0=some (0,2)∧QT Tryz.prog 96 0=some (0,1)∧QT Tryz.prog 96 1=some (1,1)∧QT Tryz.prog 105 2=some (2,1)∧QT Tryz.prog 105 3=some (3,1)∧QT Tryz.prog 107 0=some (0,1)∧QT Tryz.prog 107 1=some (1,1)∧QT Tryz.prog 112 0=some (0,3)∧QT Tryz.prog 112 1=some (3,1)∧QT Tryz.prog 122 0=some (0,1)∧QT Tryz.prog 122 1=some (1,1)∧QT Tryz.prog 122 2=some (2,1)∧QT Tryz.prog 124 0=some (0,3)∧QT Tryz.prog 124 1=some (3,1)∧QT Tryz.prog 124 2=some (4,1)∧QT Tryz.prog 124 3=some (5,1)∧QT Tryz.prog 137 0=some (0,1)∧QT Tryz.prog 137 1=some (1,1)∧QT Tryz.prog 146 0=some (0,1)∧QT Tryz.prog 146 1=some (1,1)∧QT Tryz.prog 146 2=some (2,1)∧QT Tryz.prog 172 0=some (0,1)∧QT Tryz.prog 185 0=some (0,1)∧QT Tryz.prog 185 1=some (1,1)∧QT Tryz.prog 187 0=some (0,1)∧QT Tryz.prog 189 0=some (0,1)∧QT Tryz.prog 189 1=some (1,1)∧QT Tryz.prog 278 0=some (0,1)∧QT Tryz.prog 278 1=some (1,1):=by and_intros<;>kernel_rfl
@[go_sem] theorem JXP:JM Tryz.prog 1=false∧JM Tryz.prog 13=true∧JM Tryz.prog 14=true∧JM Tryz.prog 15=true∧JM Tryz.prog 16=true∧JM Tryz.prog 17=true∧JM Tryz.prog 18=true∧JM Tryz.prog 19=true∧JM Tryz.prog 20=true∧JM Tryz.prog 21=true∧JM Tryz.prog 22=true∧JM Tryz.prog 23=true∧JM Tryz.prog 24=true∧JM Tryz.prog 25=true∧JM Tryz.prog 26=true∧JM Tryz.prog 27=true∧JM Tryz.prog 28=true∧JM Tryz.prog 29=true∧JM Tryz.prog 30=true∧JM Tryz.prog 31=true∧JM Tryz.prog 32=true∧JM Tryz.prog 33=true∧JM Tryz.prog 34=true∧JM Tryz.prog 35=true∧JM Tryz.prog 36=true∧JM Tryz.prog 37=true∧JM Tryz.prog 38=true∧JM Tryz.prog 39=true∧JM Tryz.prog 40=true∧JM Tryz.prog 41=true∧JM Tryz.prog 42=true∧JM Tryz.prog 43=true∧JM Tryz.prog 44=true∧JM Tryz.prog 45=true∧JM Tryz.prog 46=true∧JM Tryz.prog 47=true∧JM Tryz.prog 48=true∧JM Tryz.prog 49=true∧JM Tryz.prog 50=true∧JM Tryz.prog 51=true∧JM Tryz.prog 52=true∧JM Tryz.prog 53=true∧JM Tryz.prog 54=true∧JM Tryz.prog 55=true∧JM Tryz.prog 56=true∧JM Tryz.prog 57=true∧JM Tryz.prog 58=true∧JM Tryz.prog 59=true∧JM Tryz.prog 60=true∧JM Tryz.prog 61=true∧JM Tryz.prog 62=true∧JM Tryz.prog 63=true∧JM Tryz.prog 64=true∧JM Tryz.prog 65=true∧JM Tryz.prog 66=true∧JM Tryz.prog 67=true∧JM Tryz.prog 68=true∧JM Tryz.prog 69=true∧JM Tryz.prog 70=true∧JM Tryz.prog 71=true∧JM Tryz.prog 72=true∧JM Tryz.prog 73=true∧JM Tryz.prog 74=true∧JM Tryz.prog 75=true∧JM Tryz.prog 76=true∧JM Tryz.prog 77=true∧JM Tryz.prog 78=true∧JM Tryz.prog 79=true∧JM Tryz.prog 80=true∧JM Tryz.prog 81=true∧JM Tryz.prog 82=true∧JM Tryz.prog 83=true∧JM Tryz.prog 84=true∧JM Tryz.prog 85=true∧JM Tryz.prog 86=true∧JM Tryz.prog 87=true∧JM Tryz.prog 88=true∧JM Tryz.prog 89=true∧JM Tryz.prog 90=true∧JM Tryz.prog 91=true∧JM Tryz.prog 92=true∧JM Tryz.prog 93=true∧JM Tryz.prog 94=true∧JM Tryz.prog 95=true∧JM Tryz.prog 96=true∧JM Tryz.prog 97=true∧JM Tryz.prog 98=true∧JM Tryz.prog 99=true∧JM Tryz.prog 100=true∧JM Tryz.prog 101=true∧JM Tryz.prog 102=true∧JM Tryz.prog 103=true∧JM Tryz.prog 104=true∧JM Tryz.prog 105=true∧JM Tryz.prog 106=true∧JM Tryz.prog 107=true∧JM Tryz.prog 108=true∧JM Tryz.prog 109=true∧JM Tryz.prog 110=true∧JM Tryz.prog 111=true∧JM Tryz.prog 112=true∧JM Tryz.prog 113=true∧JM Tryz.prog 114=true∧JM Tryz.prog 115=true∧JM Tryz.prog 116=true∧JM Tryz.prog 117=true∧JM Tryz.prog 118=true∧JM Tryz.prog 119=true∧JM Tryz.prog 120=true∧JM Tryz.prog 121=true∧JM Tryz.prog 122=true∧JM Tryz.prog 123=true∧JM Tryz.prog 124=true∧JM Tryz.prog 125=true∧JM Tryz.prog 126=true∧JM Tryz.prog 127=true∧JM Tryz.prog 128=true∧JM Tryz.prog 129=true∧JM Tryz.prog 130=true∧JM Tryz.prog 131=true∧JM Tryz.prog 132=true∧JM Tryz.prog 133=true∧JM Tryz.prog 134=true∧JM Tryz.prog 135=true∧JM Tryz.prog 136=true∧JM Tryz.prog 137=true∧JM Tryz.prog 138=true∧JM Tryz.prog 139=true∧JM Tryz.prog 140=true∧JM Tryz.prog 141=true∧JM Tryz.prog 142=true∧JM Tryz.prog 143=true∧JM Tryz.prog 144=true∧JM Tryz.prog 146=true∧JM Tryz.prog 147=true∧JM Tryz.prog 148=true∧JM Tryz.prog 149=true∧JM Tryz.prog 150=true∧JM Tryz.prog 151=true∧JM Tryz.prog 152=true∧JM Tryz.prog 153=true∧JM Tryz.prog 154=true∧JM Tryz.prog 155=true∧JM Tryz.prog 156=true∧JM Tryz.prog 157=true∧JM Tryz.prog 158=true∧JM Tryz.prog 159=true∧JM Tryz.prog 160=true∧JM Tryz.prog 161=true∧JM Tryz.prog 162=true∧JM Tryz.prog 163=true∧JM Tryz.prog 164=true∧JM Tryz.prog 165=true∧JM Tryz.prog 166=true∧JM Tryz.prog 167=true∧JM Tryz.prog 168=true∧JM Tryz.prog 169=true∧JM Tryz.prog 170=true∧JM Tryz.prog 171=true∧JM Tryz.prog 172=true∧JM Tryz.prog 173=true∧JM Tryz.prog 174=true∧JM Tryz.prog 179=false∧JM Tryz.prog 180=true∧JM Tryz.prog 181=true∧JM Tryz.prog 182=true∧JM Tryz.prog 183=true∧JM Tryz.prog 184=true∧JM Tryz.prog 185=true∧JM Tryz.prog 186=true∧JM Tryz.prog 187=true∧JM Tryz.prog 188=true∧JM Tryz.prog 189=true∧JM Tryz.prog 190=true∧JM Tryz.prog 191=true∧JM Tryz.prog 192=true∧JM Tryz.prog 193=true∧JM Tryz.prog 194=true∧JM Tryz.prog 195=true∧JM Tryz.prog 196=true∧JM Tryz.prog 197=false∧JM Tryz.prog 198=true∧JM Tryz.prog 199=true∧JM Tryz.prog 200=true∧JM Tryz.prog 205=true∧JM Tryz.prog 206=false∧JM Tryz.prog 207=true∧JM Tryz.prog 208=true∧JM Tryz.prog 209=true∧JM Tryz.prog 210=true∧JM Tryz.prog 211=true∧JM Tryz.prog 212=true∧JM Tryz.prog 213=true∧JM Tryz.prog 214=true∧JM Tryz.prog 215=false∧JM Tryz.prog 216=true∧JM Tryz.prog 218=true∧JM Tryz.prog 219=true∧JM Tryz.prog 220=true∧JM Tryz.prog 241=true∧JM Tryz.prog 246=true:=by and_intros<;>kernel_rfl
@[go_sem] theorem JXU:JBT Tryz.prog 9=none∧JBT Tryz.prog 221=some (3,29)∧JBT Tryz.prog 222=some (3,34):=by and_intros<;>kernel_rfl
@[go_sem] theorem JXT:JB5 Tryz.prog 3=some 0:=by kernel_rfl
@[go_sem] theorem JXQ:JBY Tryz.prog 172=false∧JBY Tryz.prog 185=false∧JBY Tryz.prog 187=false∧JBY Tryz.prog 189=false:=by and_intros<;>kernel_rfl
@[go_sem] theorem JXR:JAl Tryz.prog 9 "meterworks/card.made" = none∧JAl Tryz.prog 172 "meterworks/card.made" = none∧JAl Tryz.prog 185 "meterworks/card.made" = some 239∧JAl Tryz.prog 187 "meterworks/card.made" = some 240∧JAl Tryz.prog 189 "meterworks/card.made" = some 242∧JAl Tryz.prog 284 "meterworks/card.made" = none:=by and_intros<;>kernel_rfl
end Go.Mw
namespace Go.Proofs
open Go.Shelf
def Tryz.lays100_ren:Go.Shelf.Ren:=⟨fun|100=>106|207=>147|n=>n,fun|9=>9|4=>4|3=>3|n=>n,fun|n=>n⟩
theorem Tryz.lays100:Go.Proofs.Lays.n100 Tryz.prog Tryz.lays100_ren where
 mixed:=by kernel_rfl
 f100:=Tryz.func106.trans (congrArg some JL)
 f207:=Tryz.func147.trans (congrArg some JL)
 t3:=Tryz.underlying3
 a3:=Tryz.isAgg3
 z3:=Tryz.sizeOf3
 v3:=Tryz.zeroValue3
 t4:=Tryz.underlying4
 a4:=Tryz.isAgg4
 z4:=Tryz.sizeOf4
 v4:=Tryz.zeroValue4
 t9:=Tryz.underlying9
 a9:=Tryz.isAgg9
 z9:=Tryz.sizeOf9
 v9:=Tryz.zeroValue9
def Tryz.lays102_ren:Go.Shelf.Ren:=⟨fun|102=>108|209=>149|207=>147|n=>n,fun|9=>9|4=>4|3=>3|n=>n,fun|n=>n⟩
theorem Tryz.lays102:Go.Proofs.Lays.n102 Tryz.prog Tryz.lays102_ren where
 mixed:=by kernel_rfl
 f102:=Tryz.func108.trans (congrArg some JL)
 f207:=Tryz.func147.trans (congrArg some JL)
 f209:=Tryz.func149.trans (congrArg some JL)
 t3:=Tryz.underlying3
 a3:=Tryz.isAgg3
 z3:=Tryz.sizeOf3
 v3:=Tryz.zeroValue3
 t4:=Tryz.underlying4
 a4:=Tryz.isAgg4
 z4:=Tryz.sizeOf4
 v4:=Tryz.zeroValue4
 t9:=Tryz.underlying9
 a9:=Tryz.isAgg9
 z9:=Tryz.sizeOf9
 v9:=Tryz.zeroValue9
def Tryz.lays145_ren:Go.Shelf.Ren:=⟨fun|145=>150|220=>183|219=>207|217=>214|225=>215|224=>216|267=>217|266=>221|314=>222|n=>n,fun|9=>9|4=>4|59=>218|3=>3|5=>5|46=>200|146=>262|51=>258|n=>n,fun|1=>2|n=>n⟩
theorem Tryz.lays145:Go.Proofs.LaysM.n145 Tryz.prog Tryz.lays145_ren where
 mixed:=by kernel_rfl
 f145:=Tryz.func150.trans (congrArg some JL)
 f217:=Tryz.func214.trans (congrArg some JL)
 f219:=Tryz.func207.trans (congrArg some JL)
 f220:=Tryz.func183.trans (congrArg some JL)
 f224:=Tryz.func216.trans (congrArg some JL)
 f225:=Tryz.func215.trans (congrArg some JL)
 f266:=Tryz.func221.trans (congrArg some JL)
 f267:=Tryz.func217.trans (congrArg some JL)
 f314:=Tryz.func222.trans (congrArg some JL)
 t3:=Tryz.underlying3
 a3:=Tryz.isAgg3
 z3:=Tryz.sizeOf3
 v3:=Tryz.zeroValue3
 t4:=Tryz.underlying4
 a4:=Tryz.isAgg4
 z4:=Tryz.sizeOf4
 v4:=Tryz.zeroValue4
 t5:=Tryz.underlying5
 a5:=Tryz.isAgg5
 z5:=Tryz.sizeOf5
 v5:=Tryz.zeroValue5
 t9:=Tryz.underlying9
 a9:=Tryz.isAgg9
 z9:=Tryz.sizeOf9
 v9:=Tryz.zeroValue9
 t46:=Tryz.underlying200
 a46:=Tryz.isAgg200
 z46:=Tryz.sizeOf200
 v46:=Tryz.zeroValue200
 t51:=Tryz.underlying258
 a51:=Tryz.isAgg258
 z51:=Tryz.sizeOf258
 v51:=Tryz.zeroValue258
 t59:=Tryz.underlying218
 a59:=Tryz.isAgg218
 z59:=Tryz.sizeOf218
 v59:=Tryz.zeroValue218
 t146:=Tryz.underlying262
 a146:=Tryz.isAgg262
 z146:=Tryz.sizeOf262
 v146:=Tryz.zeroValue262
 g1:=by kernel_rfl
 i3:=by kernel_rfl
 i4:=by kernel_rfl
 i5:=by kernel_rfl
 i9:=by kernel_rfl
 i46:=by kernel_rfl
 i51:=by kernel_rfl
 i59:=by kernel_rfl
 i146:=by kernel_rfl
 m1:=by kernel_rfl
 s1_3:=fun w h=>Go.Proofs.cell_of_shapedOpen_int (zero:=#[.int .i64 0]) (t:=3) h (of_decide_eq_true JL) JL rfl JL JL Tryz.underlying3
def Tryz.lays146_ren:Go.Shelf.Ren:=⟨fun|146=>107|221=>148|268=>180|138=>181|143=>182|195=>205|197=>199|218=>206|219=>207|260=>210|217=>214|225=>215|224=>216|267=>217|266=>221|314=>222|n=>n,fun|9=>9|31=>92|3=>3|4=>4|0=>0|105=>268|21=>21|5=>5|46=>200|119=>276|139=>279|138=>278|146=>262|51=>258|n=>n,fun|1=>2|3=>3|4=>4|n=>n⟩
theorem Tryz.lays146:Go.Proofs.LaysM.n146 Tryz.prog Tryz.lays146_ren where
 mixed:=by kernel_rfl
 f138:=Tryz.func181.trans (congrArg some JL)
 f143:=Tryz.func182.trans (congrArg some JL)
 f146:=Tryz.func107.trans (congrArg some JL)
 f195:=Tryz.func205.trans (congrArg some JL)
 f197:=Tryz.func199.trans (congrArg some JL)
 f217:=Tryz.func214.trans (congrArg some JL)
 f218:=Tryz.func206.trans (congrArg some JL)
 f219:=Tryz.func207.trans (congrArg some JL)
 f221:=Tryz.func148.trans (congrArg some JL)
 f224:=Tryz.func216.trans (congrArg some JL)
 f225:=Tryz.func215.trans (congrArg some JL)
 f260:=Tryz.func210.trans (congrArg some JL)
 f266:=Tryz.func221.trans (congrArg some JL)
 f267:=Tryz.func217.trans (congrArg some JL)
 f268:=Tryz.func180.trans (congrArg some JL)
 f314:=Tryz.func222.trans (congrArg some JL)
 t0:=Tryz.underlying0
 a0:=Tryz.isAgg0
 z0:=Tryz.sizeOf0
 v0:=Tryz.zeroValue0
 t3:=Tryz.underlying3
 a3:=Tryz.isAgg3
 z3:=Tryz.sizeOf3
 v3:=Tryz.zeroValue3
 t4:=Tryz.underlying4
 a4:=Tryz.isAgg4
 z4:=Tryz.sizeOf4
 v4:=Tryz.zeroValue4
 t5:=Tryz.underlying5
 a5:=Tryz.isAgg5
 z5:=Tryz.sizeOf5
 v5:=Tryz.zeroValue5
 t9:=Tryz.underlying9
 a9:=Tryz.isAgg9
 z9:=Tryz.sizeOf9
 v9:=Tryz.zeroValue9
 t21:=Tryz.underlying21
 a21:=Tryz.isAgg21
 z21:=Tryz.sizeOf21
 v21:=Tryz.zeroValue21
 t31:=Tryz.underlying92
 a31:=Tryz.isAgg92
 z31:=Tryz.sizeOf92
 v31:=Tryz.zeroValue92
 t46:=Tryz.underlying200
 a46:=Tryz.isAgg200
 z46:=Tryz.sizeOf200
 v46:=Tryz.zeroValue200
 t51:=Tryz.underlying258
 a51:=Tryz.isAgg258
 z51:=Tryz.sizeOf258
 v51:=Tryz.zeroValue258
 t105:=Tryz.underlying268
 a105:=Tryz.isAgg268
 z105:=Tryz.sizeOf268
 v105:=Tryz.zeroValue268
 t119:=Tryz.underlying276
 a119:=Tryz.isAgg276
 z119:=Tryz.sizeOf276
 t138:=Tryz.underlying278
 a138:=Tryz.isAgg278
 z138:=Tryz.sizeOf278
 v138:=Tryz.zeroValue278
 t139:=Tryz.underlying279
 a139:=Tryz.isAgg279
 z139:=Tryz.sizeOf279
 v139:=Tryz.zeroValue279
 t146:=Tryz.underlying262
 a146:=Tryz.isAgg262
 z146:=Tryz.sizeOf262
 v146:=Tryz.zeroValue262
 g1:=by kernel_rfl
 g3:=by kernel_rfl
 g4:=by kernel_rfl
 i0:=by kernel_rfl
 i3:=by kernel_rfl
 i4:=by kernel_rfl
 i5:=by kernel_rfl
 i9:=by kernel_rfl
 i21:=by kernel_rfl
 i31:=by kernel_rfl
 i46:=by kernel_rfl
 i51:=by kernel_rfl
 i105:=by kernel_rfl
 i138:=by kernel_rfl
 i139:=by kernel_rfl
 i146:=by kernel_rfl
 m1:=by kernel_rfl
 s1_3:=fun w h=>Go.Proofs.cell_of_shapedOpen_int (zero:=#[.int .i64 0]) (t:=3) h (of_decide_eq_true JL) JL rfl JL JL Tryz.underlying3
 m3:=by kernel_rfl
 m4:=by kernel_rfl
def Tryz.lays156_ren:Go.Shelf.Ren:=⟨fun|156=>84|165=>133|166=>103|169=>50|240=>146|241=>167|276=>179|277=>197|n=>n,fun|31=>92|9=>9|3=>3|4=>4|0=>0|20=>20|72=>88|76=>167|70=>86|37=>53|75=>166|127=>170|164=>250|5=>5|80=>97|n=>n,fun|n=>n⟩
theorem Tryz.lays156:Go.Proofs.Lays.n156 Tryz.prog Tryz.lays156_ren where
 mixed:=by kernel_rfl
 f156:=Tryz.func84.trans (congrArg some JL)
 f165:=Tryz.func133.trans (congrArg some JL)
 f166:=Tryz.func103.trans (congrArg some JL)
 f169:=Tryz.func50.trans (congrArg some JL)
 f240:=Tryz.func146.trans (congrArg some JL)
 f241:=Tryz.func167.trans (congrArg some JL)
 f276:=Tryz.func179.trans (congrArg some JL)
 f277:=Tryz.func197.trans (congrArg some JL)
 t0:=Tryz.underlying0
 a0:=Tryz.isAgg0
 z0:=Tryz.sizeOf0
 v0:=Tryz.zeroValue0
 t3:=Tryz.underlying3
 a3:=Tryz.isAgg3
 z3:=Tryz.sizeOf3
 v3:=Tryz.zeroValue3
 t4:=Tryz.underlying4
 a4:=Tryz.isAgg4
 z4:=Tryz.sizeOf4
 v4:=Tryz.zeroValue4
 t9:=Tryz.underlying9
 a9:=Tryz.isAgg9
 z9:=Tryz.sizeOf9
 v9:=Tryz.zeroValue9
 t20:=Tryz.underlying20
 a20:=Tryz.isAgg20
 z20:=Tryz.sizeOf20
 v20:=Tryz.zeroValue20
 t31:=Tryz.underlying92
 a31:=Tryz.isAgg92
 z31:=Tryz.sizeOf92
 v31:=Tryz.zeroValue92
 t37:=Tryz.underlying53
 a37:=Tryz.isAgg53
 z37:=Tryz.sizeOf53
 v37:=Tryz.zeroValue53
 t70:=Tryz.underlying86
 a70:=Tryz.isAgg86
 z70:=Tryz.sizeOf86
 v70:=Tryz.zeroValue86
 t72:=Tryz.underlying88
 a72:=Tryz.isAgg88
 z72:=Tryz.sizeOf88
 v72:=Tryz.zeroValue88
 t75:=Tryz.underlying166
 a75:=Tryz.isAgg166
 z75:=Tryz.sizeOf166
 v75:=Tryz.zeroValue166
 t76:=Tryz.underlying167
 a76:=Tryz.isAgg167
 z76:=Tryz.sizeOf167
 v76:=Tryz.zeroValue167
 t127:=Tryz.underlying170
 a127:=Tryz.isAgg170
 z127:=Tryz.sizeOf170
 v127:=Tryz.zeroValue170
 t164:=Tryz.underlying250
 a164:=Tryz.isAgg250
 z164:=Tryz.sizeOf250
 v164:=Tryz.zeroValue250
def Tryz.lays171_ren:Go.Shelf.Ren:=⟨fun|171=>46|243=>102|246=>145|283=>175|284=>176|285=>177|286=>178|129=>188|317=>201|318=>202|319=>203|320=>204|337=>212|338=>213|n=>n,fun|3=>3|9=>9|2=>2|4=>4|171=>244|0=>0|53=>245|37=>53|5=>5|173=>248|212=>272|51=>258|20=>20|213=>273|46=>200|232=>281|233=>282|n=>n,fun|17=>1|18=>5|19=>6|n=>n⟩
theorem Tryz.lays171:Go.Proofs.LaysM.n171 Tryz.prog Tryz.lays171_ren where
 mixed:=by kernel_rfl
 f129:=Tryz.func188.trans (congrArg some JL)
 f171:=Tryz.func46.trans (congrArg some JL)
 f243:=Tryz.func102.trans (congrArg some JL)
 f246:=Tryz.func145.trans (congrArg some JL)
 f283:=Tryz.func175.trans (congrArg some JL)
 f284:=Tryz.func176.trans (congrArg some JL)
 f285:=Tryz.func177.trans (congrArg some JL)
 f286:=Tryz.func178.trans (congrArg some JL)
 f317:=Tryz.func201.trans (congrArg some JL)
 f318:=Tryz.func202.trans (congrArg some JL)
 f319:=Tryz.func203.trans (congrArg some JL)
 f320:=Tryz.func204.trans (congrArg some JL)
 f337:=Tryz.func212.trans (congrArg some JL)
 f338:=Tryz.func213.trans (congrArg some JL)
 t0:=Tryz.underlying0
 a0:=Tryz.isAgg0
 z0:=Tryz.sizeOf0
 v0:=Tryz.zeroValue0
 t2:=Tryz.underlying2
 a2:=Tryz.isAgg2
 z2:=Tryz.sizeOf2
 v2:=Tryz.zeroValue2
 t3:=Tryz.underlying3
 a3:=Tryz.isAgg3
 z3:=Tryz.sizeOf3
 v3:=Tryz.zeroValue3
 t4:=Tryz.underlying4
 a4:=Tryz.isAgg4
 z4:=Tryz.sizeOf4
 v4:=Tryz.zeroValue4
 t5:=Tryz.underlying5
 a5:=Tryz.isAgg5
 z5:=Tryz.sizeOf5
 v5:=Tryz.zeroValue5
 t9:=Tryz.underlying9
 a9:=Tryz.isAgg9
 z9:=Tryz.sizeOf9
 v9:=Tryz.zeroValue9
 t20:=Tryz.underlying20
 a20:=Tryz.isAgg20
 z20:=Tryz.sizeOf20
 v20:=Tryz.zeroValue20
 t37:=Tryz.underlying53
 a37:=Tryz.isAgg53
 z37:=Tryz.sizeOf53
 v37:=Tryz.zeroValue53
 t46:=Tryz.underlying200
 a46:=Tryz.isAgg200
 z46:=Tryz.sizeOf200
 v46:=Tryz.zeroValue200
 t51:=Tryz.underlying258
 a51:=Tryz.isAgg258
 z51:=Tryz.sizeOf258
 v51:=Tryz.zeroValue258
 t53:=Tryz.underlying245
 a53:=Tryz.isAgg245
 z53:=Tryz.sizeOf245
 v53:=Tryz.zeroValue245
 t171:=Tryz.underlying244
 a171:=Tryz.isAgg244
 z171:=Tryz.sizeOf244
 v171:=Tryz.zeroValue244
 t173:=Tryz.underlying248
 a173:=Tryz.isAgg248
 z173:=Tryz.sizeOf248
 v173:=Tryz.zeroValue248
 t212:=Tryz.underlying272
 a212:=Tryz.isAgg272
 z212:=Tryz.sizeOf272
 v212:=Tryz.zeroValue272
 t213:=Tryz.underlying273
 a213:=Tryz.isAgg273
 z213:=Tryz.sizeOf273
 t232:=Tryz.underlying281
 a232:=Tryz.isAgg281
 z232:=Tryz.sizeOf281
 v232:=Tryz.zeroValue281
 t233:=Tryz.underlying282
 a233:=Tryz.isAgg282
 z233:=Tryz.sizeOf282
 v233:=Tryz.zeroValue282
 g17:=by kernel_rfl
 g18:=by kernel_rfl
 g19:=by kernel_rfl
 i0:=by kernel_rfl
 i2:=by kernel_rfl
 i3:=by kernel_rfl
 i4:=by kernel_rfl
 i5:=by kernel_rfl
 i9:=by kernel_rfl
 i20:=by kernel_rfl
 i37:=by kernel_rfl
 i46:=by kernel_rfl
 i51:=by kernel_rfl
 i53:=by kernel_rfl
 i171:=by kernel_rfl
 i173:=by kernel_rfl
 i212:=by kernel_rfl
 i232:=by kernel_rfl
 i233:=by kernel_rfl
 m17:=by kernel_rfl
 m18:=by kernel_rfl
 m19:=by kernel_rfl
end Go.Proofs
namespace Go.Proofs
open Go.Shelf
theorem Tryz.extra156:Builder.Extra Tryz.prog Tryz.lays156_ren where
 sizeBuilder:=by kernel_rfl
 liesBuilder:=by kernel_rfl
 t5:=Tryz.underlying5
 a5:=Tryz.isAgg5
 z5:=Tryz.sizeOf5
 v5:=Tryz.zeroValue5
 infoByte:=by kernel_rfl
 cellsByte:=by kernel_rfl
 sizeByte:=by kernel_rfl
 neB5:=by decide
end Go.Proofs
namespace Go.Mw
open Go.Proofs Go.RowKit
section one
variable {S:JZ} {ι:Nat→Value} {H:Nat→Option AO} {w:World}
theorem JPN {a:Value}{vs:List Value}(h:JO (Jk S ι H w) [.raw a] vs):vs=[a]:=by
 match vs,h with
 |[v],h=>rw [Qd (Jm h.1)]
theorem JGa {a b:Value}{vs:List Value}(h:JO (Jk S ι H w) [.raw a,.raw b] vs):vs=[a,b]:=by
 match vs,h with
 |[v,u],h=>rw [Qd (Jm h.1),Qd (Jm h.2.1)]
end one
theorem JEQ {v:Value}(h:v.oneCell'=true):∀S ι H w,Jk S ι H w (.raw v) v:=fun S ι H w=>⟨_,rfl,RepD.raw v h⟩
theorem JLo (s p:List UInt8)(hs:s.length≤9223372036854775807):Jf Tryz.prog 106 [.str s,.str p] (.bool (Lib.hasSuffix s p)) []:=
 JEv fun S ι w vs hG hin h=>by
  rw [JGa h]
  have:=Any.strings_HasSuffix Tryz.lays100 (bs s) (bs p) w (by rw [Z5];exact hs)
  rw [JAI,JAI] at this
  exact this.mono fun e w' ⟨he,hw⟩=>⟨_,he,JEQ rfl,hw▸Below.refl _ _⟩
theorem JQC (s p:List UInt8)(hs:s.length≤9223372036854775807):Jf Tryz.prog 108 [.str s,.str p] (.str (Lib.trimSuffix s p)) []:=
 JEv fun S ι w vs hG hin h=>by
  rw [JGa h]
  have:=Any.strings_TrimSuffix Tryz.lays102 (bs s) (bs p) w (by rw [Z5];exact hs)
  rw [JAI,JAI] at this
  exact this.mono fun e w' ⟨he,hw⟩=>⟨_,he,JEQ rfl,hw▸Below.refl _ _⟩
theorem JP3 (n:Int)(h0:-9223372036854775808≤n)(h1:n≤9223372036854775807)(g:Nat)(hg:Tryz.prog.globalNamed "internal/strconv.uint64pow10" = some g):Jf Tryz.prog 46 [.int n] (.str (Lib.itoa n)) []:=
 JEv fun S ι w vs hG hin h=>by
  rw [JPN h]
  have:=Any.strconv_Itoa Tryz.lays171 n h0 h1 w (hG.tab _ _ _ (by simp [JFW]) g hg).2
  exact this.mono fun e w' ⟨he,k,os,hw⟩=>⟨_,he,JEQ rfl,by subst hw;exact Go.Lib.below_grow _ _ (Nat.le_refl _) _ _⟩
theorem JP4 (xs:List (List UInt8))(sep:List UInt8)(hN:xs.length≤140737488355328)(hl:(Lib.join xs sep).length≤140737488355328) :
  Jf Tryz.prog 84 [.leaf (.d (.sl 1 (xs.map fun x=>[.raw (.string (bs x))]))),.str sep] (.str (Lib.join xs sep)) []:=
 JEv fun S ι w vs hG hin h=>by
  match vs,h with
  |[v,u],h=>
  have hu:=Qd (Jm h.2.1)
  have hv:RepD S w _ v:=Jm h.1
  subst hu
  have em:(xs.map bs).map (·.data.toList)=xs:=by
   rw [List.map_map,show ((fun x:ByteArray=>x.data.toList) ∘ bs)=id from funext fun x=>JAI x,List.map_id]
  generalize hes:(xs.map fun x=>[D.raw (.string (bs x))])=es at hv
  cases hv with
  |nil _ p c=>
   have:xs=[]:=by simpa using hes
   subst this
   have:=Any.strings_Join_none Tryz.lays156 Tryz.extra156 p c (bs sep) w
   exact this.mono fun e w' ⟨he,hw⟩=>⟨_,he,JEQ rfl,hw▸Below.refl _ _⟩
  |sl _ _ b off c JY hc hk hS hw hr=>
   have hlen:es.length=(xs.map bs).length:=by rw [←hes];simp
   have hat:∀(j:Nat) (x:ByteArray),(xs.map bs)[j]? = some x→es[j]? = some [.raw (.string x)]:=fun j x hx=>by
    rw [←hes,List.getElem?_map]
    rw [List.getElem?_map] at hx
    cases hj:xs[j]? with
    |none=>simp [hj] at hx
    |some y=>simp only [hj,Option.map_some,Option.some.injEq] at hx ⊢;rw [hx]
   by_cases h0:xs=[]
   ·subst h0
    simp at hes;subst hes
    have:=Any.strings_Join_none Tryz.lays156 Tryz.extra156 (some ⟨b,off,none⟩) c (bs sep) w
    exact this.mono fun e w' ⟨he,hw⟩=>⟨_,he,JEQ rfl,hw▸Below.refl _ _⟩
   have hb:b<w.heap.size:=by
    cases xs with
    |nil=>exact absurd rfl h0
    |cons y ys=>exact hin b _ (hS 0 _ 0 _ (hat 0 (bs y) rfl) rfl)
   have:=Any.strings_Join Tryz.lays156 Tryz.extra156 b off c (xs.map bs) (bs sep) w (fun j x hx=>by
    have h1:=hw j _ 0 _ (hat j x hx) rfl
    have h2:=Qd (hr j _ 0 _ (hat j x hx) rfl)
    rw [Nat.mul_one,Nat.add_zero] at h1
    rw [h1,h2]) hb (by simpa using hN) (by rw [←hlen];exact hc) (by rw [em,JAI];exact hl)
   rw [em,JAI,←hlen] at this
   exact this.mono fun e w' ⟨he,hw⟩=>⟨_,he,JEQ rfl,hw⟩
theorem JLm (s p:List UInt8)(hs:s.length<4294967281)(g:Nat)(hg:Tryz.prog.globalNamed "internal/bytealg.MaxLen" = some g)(hr:Tryz.lays145_ren.g 1=g) :
  Jf Tryz.prog 150 [.str s,.str p] (.tup [(false,[.d (.raw (.string (bs (Lib.cut s p).1)))]),(false,[.d (.raw (.string (bs (Lib.cut s p).2.1)))]),(false,[.d (.raw (.bool (Lib.cut s p).2.2))])]) []:=
 JEv fun S ι w vs hG hin h=>by
  rw [JGa h]
  obtain ⟨m,hm⟩:=(hG.max g hg).2
  have:=Any.strings_Cut { Tryz.lays145 with } (bs s) (bs p) m w (by rw [Z5];exact hs) (by rw [hr];exact hm)
  rw [JAI,JAI] at this
  exact this.mono fun e w' ⟨he,n,hw⟩=>⟨_,he,fun S ι H w=>⟨_,rfl,⟨_,rfl,RepD.raw _ rfl⟩,⟨_,rfl,RepD.raw _ rfl⟩,⟨_,rfl,RepD.raw _ rfl⟩,trivial⟩,hw▸below_drewN (Below.refl _ _) n⟩
def JCk (s p:List UInt8):List (List D):=(Lib.splitB (bs p) 0 (Lib.countB (bs s) (bs p)) (bs s)).map fun x=>[.raw (.string x)]
theorem JQA (s p:List UInt8)(hp:1≤p.length)(hs:s.length<4294967281)(g:Nat)(hg:Tryz.prog.globalNamed "internal/bytealg.MaxLen" = some g)(hr:Tryz.lays146_ren.g 1=g) :
  Jf Tryz.prog 107 [.str s,.str p] (.leaf (.own 900 0 (JCk s p).length (JCk s p).length)) [(900,.arr 9 1 (JCk s p))]:=
 JQr rfl (fun x hx=>by obtain ⟨y,_,rfl⟩:=List.mem_map.1 hx;rfl) (by omega) fun S ι w vs hG hin h=>by
  rw [JGa h]
  obtain ⟨m,hm⟩:=(hG.max g hg).2
  have hlen:=Lib.splitB_all (bs p) (by rw [Z5];exact hp) 0 _ (bs s) rfl
  have hle:=Lib.countB_le (bs p) (by rw [Z5];exact hp) (bs s).size (bs s) (Nat.le_refl _)
  have:=Any.strings_Split { Tryz.lays146 with } Tryz.lays146.i9 (bs s) (bs p) m w (by rw [Z5];exact hs) (by rw [hr];exact hm) (by rw [Z5];exact hp)
  refine this.mono fun e w' ⟨he,hw⟩=>⟨_,(Lib.splitB (bs p) 0 (Lib.countB (bs s) (bs p)) (bs s)).map Value.string,he,?_,fun S w=>?_,?_⟩
  ·subst hw
   have hn:(JCk s p).length=Lib.countB (bs s) (bs p)+1:=by unfold JCk;rw [List.length_map];exact hlen
   refine ⟨by rw [List.length_map,hn,hlen,Nat.mul_one],.inr ⟨w.heap.size,Lib.countB (bs s) (bs p)+1,_,by rw [hn],Nat.le_refl _,Go.heap_alloc_new w _,by omega,?_,?_,?_⟩⟩
   ·rw [Z5] at hle
    unfold maxLen
    omega
   ·rw [List.size_toArray,List.length_map,hlen,Nat.mul_one]
   ·rw [hn,Nat.mul_one,List.take_of_length_le]
    rw [List.length_map,hlen];exact Nat.le_refl _
  ·unfold JCk
   generalize Lib.splitB (bs p) 0 (Lib.countB (bs s) (bs p)) (bs s)=l
   induction l with
   |nil=>trivial
   |cons x l ih=>exact ⟨RepD.raw _ rfl,ih⟩
  ·subst hw
   exact ⟨rfl,rfl,rfl,by simp,fun k hk=>Below.heap_alloc w _ k hk⟩
end Go.Mw
namespace Go.Bk
abbrev Bs:=List UInt8
theorem JHf {α:Type}{p:List α→Prop}(nil:p [])(snoc:∀l a,p l→p (l++[a]))(l:List α):p l:=by
 have h:∀r:List α,p r.reverse:=by
  intro r
  induction r with
  |nil=>exact nil
  |cons a r ih=>rw [List.reverse_cons];exact snoc _ _ ih
 have:=h l.reverse
 rwa [List.reverse_reverse] at this
def QR (n:Nat):Bs:=Lib.decDigits n
theorem JDV {n:Nat}(h:n<10):QR n=[UInt8.ofNat (48+n)]:=by unfold QR;rw [Lib.decDigits,dif_pos h]
theorem JEX {n:Nat}(h:¬n<10):QR n=QR (n / 10)++[UInt8.ofNat (48+n%10)]:=by unfold QR;rw [Lib.decDigits,dif_neg h]
theorem JR0 (n:Nat):Lib.itoa (n:Int)=QR n:=by unfold Lib.itoa QR;rw [if_neg (by omega),Int.toNat_natCast]
def YS (c:UInt8):Bool:=decide (48≤c.toNat)&&decide (c.toNat≤57)
theorem JJG {c:UInt8}:YS c=true↔48≤c.toNat∧c.toNat≤57:=by simp [YS]
theorem JJt {n:Nat}(h:n<256):(UInt8.ofNat n).toNat=n:=by simp;omega
theorem JGq {d:Nat}(h:d<10):(UInt8.ofNat (48+d)).toNat=48+d:=JJt (by omega)
theorem JMo {d:Nat}(h:d<10):YS (UInt8.ofNat (48+d))=true:=by rw [JJG,JGq h];omega
theorem JO5 {a b:UInt8}(h:a.toNat=b.toNat):a=b:=UInt8.toNat.inj h
theorem JHm (n:Nat):(QR n).all YS=true:=by
 induction n using Nat.strongRecOn with
 |_ n ih=>
  by_cases h:n<10
  ·rw [JDV h,List.all_cons,JMo h];rfl
  ·rw [JEX h,List.all_append,ih (n / 10) (by omega),List.all_cons,JMo (show n%10<10 by omega)];rfl
theorem JKj (n:Nat):QR n≠[]:=by
 by_cases h:n<10
 ·rw [JDV h];simp
 ·rw [JEX h];simp
theorem JO3:QR 0=[48]:=JDV (by omega)
theorem JVV (n:Nat)(h:1≤n):(QR n).head?≠some 48:=by
 induction n using Nat.strongRecOn with
 |_ n ih=>
  by_cases h10:n<10
  ·rw [JDV h10]
   simp only [List.head?_cons,ne_eq,Option.some.injEq]
   intro e
   have:=congrArg UInt8.toNat e
   rw [JGq h10] at this
   simp at this
   omega
  ·rw [JEX h10]
   have h1:=ih (n / 10) (by omega) (by omega)
   cases hx:QR (n / 10) with
   |nil=>exact absurd hx (JKj _)
   |cons a l=>rw [hx] at h1;simpa using h1
theorem JCq {n k:Nat}(h:n<10^k)(hk:1≤k):(QR n).length≤k:=by
 induction k generalizing n with
 |zero=>omega
 |succ k ih=>
  by_cases h10:n<10
  ·rw [JDV h10];simp
  ·rw [JEX h10,List.length_append,List.length_singleton]
   by_cases hk0:k=0
   ·subst hk0;simp at h;omega
   ·have:=ih (n:=n / 10) (by rw [Nat.pow_succ] at h;omega) (by omega)
    omega
def JW (l:Bs):Nat:=l.foldl (fun n c=>10*n+(c.toNat-48)) 0
theorem JHq (l:Bs)(c:UInt8):JW (l++[c])=10*JW l+(c.toNat-48):=by simp [JW]
theorem JEY (n:Nat):JW (QR n)=n:=by
 induction n using Nat.strongRecOn with
 |_ n ih=>
  by_cases h:n<10
  ·rw [JDV h];show 10*0+_=_;rw [JGq h];omega
  ·rw [JEX h,JHq,ih (n / 10) (by omega),JGq (by omega)];omega
theorem JVW (s:Bs)(h0:s≠[])(hd:s.all YS=true)(hz:s=[48]∨s.head?≠some 48):QR (JW s)=s:=by
 induction s using JHf with
 |nil=>exact absurd rfl h0
 |snoc l c ih=>
  rw [List.all_append] at hd
  simp only [List.all_cons,List.all_nil,Bool.and_true,Bool.and_eq_true] at hd
  obtain ⟨hl,hc⟩:=hd
  have hc:=JJG.1 hc
  rw [JHq]
  by_cases hn:l=[]
  ·subst hn
   show QR (10*0+_)=[c]
   rw [JDV (by omega)]
   congr 1
   apply JO5
   rw [JJt (by omega)];omega
  ·have hh:l.head?≠some 48:=by
    cases l with
    |nil=>exact absurd rfl hn
    |cons a l=>
     rcases hz with hz|hz
     ·simp at hz
     ·simpa using hz
   have e:=ih hn hl (.inr hh)
   have hv:1≤JW l:=by
    rcases Nat.eq_zero_or_pos (JW l) with h|h
    ·rw [h,JO3] at e;rw [←e] at hh;simp at hh
    ·exact h
   rw [JEX (by omega),show (10*JW l+(c.toNat-48)) / 10=JW l by omega,e]
   congr 2
   apply JO5
   rw [JJt (by omega)];omega
def pad (c:UInt8)(w:Nat)(x:Bs):Bs:=List.replicate (w-x.length) c++x
def Ql (s:Bs):Bool:=decide (s≠[])&&decide (s.length≤12)&&(decide (s=[48]) || decide (s.head?≠some 48))&&s.all YS
theorem JFQ {s:Bs}:Ql s=true↔s≠[]∧s.length≤12∧(s=[48]∨s.head?≠some 48)∧s.all YS=true:=by
 unfold Ql
 simp only [Bool.and_eq_true,Bool.or_eq_true,decide_eq_true_eq]
 constructor
 ·rintro ⟨⟨⟨a,b⟩,c⟩,d⟩;exact ⟨a,b,c,d⟩
 ·rintro ⟨a,b,c,d⟩;exact ⟨⟨⟨a,b⟩,c⟩,d⟩
theorem JDx {n:Nat}(h:n<10^12):Ql (QR n)=true:=by
 refine JFQ.2 ⟨JKj n,JCq h (by omega),?_,JHm n⟩
 by_cases h0:n=0
 ·subst h0;exact .inl JO3
 ·exact .inr (JVV n (by omega))
theorem JDz {s:Bs}(h:Ql s=true):QR (JW s)=s:=by
 obtain ⟨a,_,c,d⟩:=JFQ.1 h
 exact JVW s a d c
def dig (c:UInt8):Nat:=if YS c then c.toNat-48 else 0
def JMH:Bs→Nat
 |[]=>0
 |c::l=>dig c+JMH l
def chk (l:Bs):Bs:=QR (JMH l%10)
def QP (c:UInt8):Bs→List Bs
 |[]=>[[]]
 |x::l=>if x=c then []::QP c l else match QP c l with
  |[]=>[[x]]
  |a::r=>(x::a)::r
theorem JDt (c:UInt8)(l:Bs):QP c l≠[]:=by
 induction l with
 |nil=>simp [QP]
 |cons x l ih=>
  unfold QP
  split
  ·simp
  ·split<;>simp
theorem cutB_hit (c:UInt8)(l:Bs):QP c (c::l)=[]::QP c l:=by rw [QP,if_pos rfl]
theorem JC2 (c:UInt8):∀(a l:Bs),c ∉ a→QP c (a++c::l)=a::QP c l
 |[],l,_=>cutB_hit c l
 |x::a,l,h=>by
  have hx:x≠c:=fun e=>h (by simp [e])
  rw [List.cons_append,QP,if_neg hx,JC2 c a l (fun e=>h (by simp [e]))]
theorem JC3 (c:UInt8):∀(a:Bs),c ∉ a→QP c a=[a]
 |[],_=>rfl
 |x::a,h=>by
  have hx:x≠c:=fun e=>h (by simp [e])
  rw [QP,if_neg hx,JC3 c a (fun e=>h (by simp [e]))]
def ends (c:UInt8)(ls:List Bs):Bs:=(ls.map (· ++ [c])).flatten
theorem JMJ (c:UInt8):ends c []=[]:=rfl
theorem JBW (c:UInt8)(l:Bs)(ls:List Bs):ends c (l::ls)=l++c::ends c ls:=by simp [ends]
theorem JMI (c:UInt8)(a b:List Bs):ends c (a++b)=ends c a++ends c b:=by simp [ends]
theorem JMB (c:UInt8):∀(ls:List Bs),(∀l∈ls,c ∉ l)→QP c (ends c ls)=ls++[[]]
 |[],_=>rfl
 |l::ls,h=>by
  rw [JBW,JC2 c l _ (h l (by simp)),JMB c ls (fun x hx=>h x (by simp [hx]))];rfl
theorem JQz (c:UInt8)(t:Bs):QP c (t++[c])=QP c t++[[]]:=by
 induction t with
 |nil=>rw [List.nil_append,cutB_hit];rfl
 |cons x t ih=>
  rw [List.cons_append,QP,QP]
  split
  ·rw [ih];rfl
  ·rw [ih]
   cases hc:QP c t with
   |nil=>exact absurd hc (JDt c t)
   |cons a r=>rfl
theorem JGm (c:UInt8)(t:Bs):ends c (QP c t)=t++[c]:=by
 induction t with
 |nil=>rfl
 |cons x t ih=>
  rw [QP]
  split
  ·next h=>subst h;rw [JBW,ih];rfl
  ·cases hc:QP c t with
   |nil=>exact absurd hc (JDt c t)
   |cons a r=>
    rw [hc,JBW] at ih
    show ends c ((x::a)::r)=_
    rw [JBW,List.cons_append,ih];rfl
end Go.Bk
namespace Go.Bk
def inD (n lo hi:Int):Bool:=decide (lo≤n)&&decide (n≤hi)
theorem JAj {n lo hi:Int}:inD n lo hi=true↔lo≤n∧n≤hi:=by simp [inD]
def JAP:List Int→Bool
 |a::b::l=>decide (a<b)&&JAP (b::l)
 |_=>true
def JAz (n most:Nat)(ok rise:Bool):Int:=if most<n then 3 else if ok then (if rise then 0 else 7) else 1
theorem JIs {n most:Nat}{ok rise:Bool}(h:JAz n most ok rise=0):n≤most∧ok=true∧rise=true:=by
 unfold JAz at h
 split at h
 ·cases h
 ·cases ok<;>cases rise<;>simp at h;exact ⟨by omega,rfl,rfl⟩
structure Tr where
 flow:Int
 pour:Int
 shown:Int
 deriving DecidableEq,Inhabited
structure Sh where
 meter:Int
 tries:List Tr
 deriving DecidableEq,Inhabited
def JDQ (t:Tr):Bs:=pad 32 6 (QR t.flow.toNat)++32::(pad 32 7 (QR t.pour.toNat)++32::pad 32 7 (QR t.shown.toNat))
def full (h:Bs):Bs:=h++32::chk h
def Zv (text:Bs):Option (List Bs):=if text=[] then some [] else if text.getLast? = some 10 then some (QP 10 text.dropLast) else none
theorem JSN {text:Bs}{ls:List Bs}(h:Zv text=some ls):text=ends 10 ls:=by
 unfold Zv at h
 split at h
 ·next e=>cases h;rw [e];rfl
 ·split at h
  ·next h0 hl=>
   cases h
   rw [JGm]
   obtain ⟨l,rfl⟩:∃l,text=l++[10]:=by
    rw [List.getLast?_eq_some_iff] at hl
    exact hl
   simp
  ·cases h
theorem JSO {ls:List Bs}(h:∀l∈ls,(10:UInt8) ∉ l):Zv (ends 10 ls)=some ls:=by
 unfold Zv
 by_cases h0:ls=[]
 ·subst h0;rfl
 ·obtain ⟨a,b,rfl⟩:∃a b,ls=a++[b]:=⟨ls.dropLast,ls.getLast h0,(List.dropLast_concat_getLast h0).symm⟩
  have e:ends 10 (a++[b])=(ends 10 a++b)++[10]:=by rw [JMI,JBW,JMJ];simp
  have hc:=JMB 10 (a++[b]) h
  rw [e] at hc ⊢
  rw [JQz] at hc
  rw [if_neg (by simp),if_pos (by simp),List.dropLast_concat,List.append_cancel_right hc]
section fold
variable {f:List Sh→Bs→Option (List Sh)}
end fold
end Go.Bk
namespace Go.Bk
structure Pg where
 house:Int
 reads:List Int
 deriving DecidableEq,Inhabited
def JAd:List Int→Bool
 |a::b::l=>decide (a≤b)&&JAd (b::l)
 |_=>true
def Yb (x:Pg):Bool:=inD x.house 0 9999&&decide (x.reads.length≤16)&&x.reads.all (fun n=>inD n 0 1073741824)&&JAd x.reads
def Yg (l:List Pg):Int:=JAz l.length 32 (l.all Yb) (JAP (l.map Pg.house))
def Js:List Int→List Int
 |a::b::l=>(b-a)::Js (b::l)
 |_=>[]
def JB1 (out:List (Nat × Int))(d:Int):List (Nat × Int):=match out.getLast? with
 |some (n,e)=>if e=d then out.dropLast++[(n+1,e)] else out++[(1,d)]
 |none=>[(1,d)]
def runs (ds:List Int):List (Nat × Int):=ds.foldl JB1 []
def Zh (g:Nat × Int):Bs:=if g.1=1 then QR g.2.toNat else QR g.1++120::QR g.2.toNat
def YV (x:Pg):List Bs:=QR x.house.toNat::match x.reads with
 |[]=>[]
 |r::_=>QR r.toNat::(runs (Js x.reads)).map Zh
def blanks:List Bs→Bs
 |[]=>[]
 |[a]=>a
 |a::b::l=>a++32::blanks (b::l)
def Zk (x:Pg):Bs:=blanks (YV x)
def Yd (l:List Pg):Bs:=ends 10 (l.map Zk)
def JB6 (l:List Pg):Bs:=if Yg l=0 then Yd l else []
theorem JTF (a b:List Pg):Yd (a++b)=Yd a++Yd b:=by unfold Yd;rw [List.map_append,JMI]
theorem JDo (a:Bs){l:List Bs}(h:l≠[]):blanks (a::l)=a++32::blanks l:=by
 cases l with
 |nil=>exact absurd rfl h
 |cons b l=>rfl
theorem JMC:∀(ws:List Bs),ws≠[]→(∀w∈ws,(32:UInt8) ∉ w)→QP 32 (blanks ws)=ws
 |[],h,_=>absurd rfl h
 |[a],_,h=>JC3 32 a (h a (by simp))
 |a::b::l,_,h=>by
  rw [JDo a (by simp),JC2 32 a _ (h a (by simp)),JMC (b::l) (by simp) (fun w hw=>h w (by simp [hw]))]
theorem JPd (l:Bs):blanks (QP 32 l)=l:=by
 have h:∀ws:List Bs,ws≠[]→ends 32 ws=blanks ws++[32]:=by
  intro ws
  induction ws with
  |nil=>exact fun h=>absurd rfl h
  |cons a ws ih=>
   intro _
   by_cases h0:ws=[]
   ·subst h0;simp [ends,blanks]
   ·rw [JBW,ih h0,JDo a h0];simp
 exact List.append_cancel_right ((h _ (JDt 32 l)).symm.trans (JGm 32 l))
theorem JMq:∀(ws:List Bs),Lib.join ws [32]=blanks ws
 |[]=>rfl
 |[a]=>Lib.join_one a _
 |a::b::l=>by
  rw [JDo a (by simp),←JMq (b::l),Lib.join_cons,Lib.join_cons]
  simp [Lib.joinTail]
theorem JI6 (n:Nat):(120:UInt8) ∉ QR n:=fun h=>absurd (List.all_eq_true.1 (JHm n) 120 h) (by decide)
theorem JRn {c:UInt8}(hc:YS c=false)(hx:c≠120)(g:Nat × Int):c ∉ Zh g:=by
 have ht:∀n,c ∉ QR n:=fun n h=>by rw [List.all_eq_true.1 (JHm n) c h] at hc;cases hc
 unfold Zh
 split
 ·exact ht _
 ·simp only [List.mem_append,List.mem_cons]
  rintro (h|h|h)
  ·exact ht _ h
  ·exact hx h
  ·exact ht _ h
theorem JPC {c:UInt8}(hc:YS c=false)(hx:c≠120)(x:Pg):∀w∈YV x,c ∉ w:=by
 have ht:∀n,c ∉ QR n:=fun n h=>by rw [List.all_eq_true.1 (JHm n) c h] at hc;cases hc
 intro w hw
 unfold YV at hw
 rcases List.mem_cons.1 hw with h|h
 ·subst h;exact ht _
 ·split at h
  ·cases h
  ·rcases List.mem_cons.1 h with h|h
   ·subst h;exact ht _
   ·obtain ⟨g,_,rfl⟩:=List.mem_map.1 h;exact JRn hc hx g
theorem JLh {c:UInt8}(hc:c≠32):∀(ws:List Bs),(∀w∈ws,c ∉ w)→c ∉ blanks ws
 |[],_=>by simp [blanks]
 |[a],h=>h a (by simp)
 |a::b::l,h=>by
  rw [JDo a (by simp),List.mem_append,List.mem_cons]
  rintro (h1|h1|h1)
  ·exact h a (by simp) h1
  ·exact hc h1
  ·exact JLh hc (b::l) (fun w hw=>h w (by simp [hw])) h1
theorem JTA (x:Pg):(10:UInt8) ∉ Zk x:=JLh (by decide) _ (JPC (by decide) (by decide) x)
theorem JTI {l:List Pg}:∀y∈l.map Zk,(10:UInt8) ∉ y:=fun y h=>by
 obtain ⟨x,_,rfl⟩:=List.mem_map.1 h;exact JTA x
theorem JVh (x:Pg):YV x≠[]:=by unfold YV;simp
theorem JQ2 (x:Pg):QP 32 (Zk x)=YV x:=JMC _ (JVh x) (JPC (by decide) (by decide) x)
def ZR (l:List Int):Int:=l.getLast?.getD 0
def Jy (d:Int):Nat→List Int→List Int
 |0,r=>r
 |n+1,r=>Jy d n (r++[ZR r+d])
theorem JM2 (l:List Int)(x:Int):ZR (l++[x])=x:=by simp [ZR]
theorem Zs (d:Int):∀(n:Nat) (r:List Int),(Jy d n r).length=r.length+n
 |0,_=>rfl
 |n+1,r=>by rw [Jy,Zs d n];simp;omega
theorem JLY (d:Int)(n:Nat){r:List Int}(h:r≠[]):Jy d n r≠[]:=by
 have:=Zs d n r
 have:=List.length_pos_iff.2 h
 exact List.length_pos_iff.1 (by omega)
theorem JCL (d:Int):∀(n:Nat) (r:List Int),Jy d (n+1) r=Jy d n r++[ZR (Jy d n r)+d]
 |0,r=>rfl
 |n+1,r=>by rw [Jy,JCL d n,Jy]
theorem JDu:∀(r:List Int) (x:Int),r≠[]→Js (r++[x])=Js r++[x-ZR r]
 |[],_,h=>absurd rfl h
 |[a],x,_=>by simp [Js,ZR]
 |a::b::l,x,_=>by
  have:=JDu (b::l) x (by simp)
  rw [List.cons_append] at this
  simp only [List.cons_append,Js,this]
  simp [ZR]
theorem JBV:∀(r:List Int),(Js r).length=r.length-1
 |[]=>rfl
 |[_]=>rfl
 |a::b::l=>by simp [Js,JBV (b::l)]
theorem JIq (d:Int):∀(n:Nat) (r:List Int),r≠[]→Js (Jy d n r)=Js r++List.replicate n d
 |0,r,_=>by simp [Jy]
 |n+1,r,h=>by
  rw [Jy,JIq d n _ (by simp),JDu r _ h,List.replicate_succ]
  simp;omega
def good:List (Nat × Int)→Prop
 |[]=>True
 |[a]=>1≤a.1
 |a::b::l=>1≤a.1∧a.2≠b.2∧good (b::l)
theorem JEL (gs:List (Nat × Int))(n:Nat)(e d:Int):JB1 (gs++[(n,e)]) d=if e=d then gs++[(n+1,e)] else gs++[(n,e),(1,d)]:=by
 unfold JB1;simp
theorem JD2:∀(gs:List (Nat × Int)) (g:Nat × Int),good (gs++[g])↔good gs∧1≤g.1∧∀h,gs.getLast? = some h→h.2≠g.2
 |[],g=>by simp [good]
 |[a],g=>by
  simp only [List.cons_append,List.nil_append,good,List.getLast?_singleton,Option.some.injEq,forall_eq']
  constructor
  ·rintro ⟨h1,h2,h3⟩;exact ⟨h1,h3,h2⟩
  ·rintro ⟨h1,h2,h3⟩;exact ⟨h1,h3,h2⟩
 |a::b::l,g=>by
  have ih:=JD2 (b::l) g
  simp only [List.cons_append] at ih ⊢
  rw [good,good,ih]
  simp only [List.getLast?_cons_cons]
  constructor
  ·rintro ⟨h1,h2,h3,h4,h5⟩;exact ⟨⟨h1,h2,h3⟩,h4,h5⟩
  ·rintro ⟨⟨h1,h2,h3⟩,h4,h5⟩;exact ⟨h1,h2,h3,h4,h5⟩
def spread (gs:List (Nat × Int)):List Int:=(gs.map fun g=>List.replicate g.1 g.2).flatten
theorem JET (gs:List (Nat × Int))(g:Nat × Int):spread (gs++[g])=spread gs++List.replicate g.1 g.2:=by simp [spread]
theorem JKR (ds:List Int)(d:Int):runs (ds++[d])=JB1 (runs ds) d:=by simp [runs]
theorem JOK (ds:List Int):good (runs ds)∧spread (runs ds)=ds:=by
 induction ds using JHf with
 |nil=>exact ⟨trivial,rfl⟩
 |snoc ds d ih=>
  obtain ⟨h1,h2⟩:=ih
  rw [JKR]
  by_cases h0:runs ds=[]
  ·rw [h0] at h2 ⊢
   rw [←h2]
   exact ⟨Nat.le_refl 1,rfl⟩
  ·obtain ⟨gs,⟨n,e⟩,hg⟩:∃a b,runs ds=a++[b]:=⟨_,_,(List.dropLast_concat_getLast h0).symm⟩
   rw [hg] at h1 h2 ⊢
   rw [JEL]
   rw [JET] at h2
   have hs:=(JD2 gs (n,e)).1 h1
   split
   ·next he=>
    subst he
    refine ⟨(JD2 gs (n+1,e)).2 ⟨hs.1,by simp,hs.2.2⟩,?_⟩
    rw [JET,←h2,List.append_assoc]
    simp [List.replicate_succ']
   ·next he=>
    rw [show gs++[(n,e),(1,d)]=(gs++[(n,e)])++[(1,d)] by simp]
    refine ⟨(JD2 _ _).2 ⟨h1,Nat.le_refl 1,fun h hh=>?_⟩,?_⟩
    ·simp at hh;subst hh;exact he
    ·rw [JET,JET,h2];rfl
theorem JNq (gs:List (Nat × Int))(d:Int)(h:∀g,gs.getLast? = some g→g.2≠d):∀n,(List.replicate (n+1) d).foldl JB1 gs=gs++[(n+1,d)]
 |0=>by
  show JB1 gs d=_
  by_cases h0:gs=[]
  ·subst h0;rfl
  ·obtain ⟨a,⟨k,e⟩,rfl⟩:∃a b,gs=a++[b]:=⟨_,_,(List.dropLast_concat_getLast h0).symm⟩
   have he:=h (k,e) (by simp)
   rw [JEL,if_neg he];simp
 |n+1=>by
  rw [List.replicate_succ',List.foldl_append,JNq gs d h n]
  show JB1 (gs++[(n+1,d)]) d=_
  rw [JEL,if_pos rfl]
theorem JUA (gs:List (Nat × Int))(h:good gs):runs (spread gs)=gs:=by
 induction gs using JHf with
 |nil=>rfl
 |snoc gs g ih=>
  obtain ⟨h1,h2,h3⟩:=(JD2 gs g).1 h
  rw [JET]
  unfold runs
  rw [List.foldl_append]
  have:=ih h1
  unfold runs at this
  rw [this]
  obtain ⟨n,d⟩:=g
  obtain ⟨k,rfl⟩:∃k,n=k+1:=⟨n-1,by simp at h2;omega⟩
  exact JNq gs d h3 k
def JAi (w:Bs):Option (Nat × Int):=match QP 120 w with
 |[a]=>if Ql a=true then some (1,JW a) else none
 |a::r=>if (Ql a=true∧Ql (w.drop (a.length+1))=true)∧2≤JW a∧JW a≤16 then some (JW a,JW (w.drop (a.length+1))) else none
 |[]=>none
structure St where
 reads:List Int
 last:Nat × Int
def Y2 (s:St)(w:Bs):Option St:=(JAi w).bind fun g=>if (s.last.1=0∨s.last.2≠g.2)∧s.reads.length+g.1≤16 then some ⟨Jy g.2 g.1 s.reads,g⟩ else none
def Yc (line:Bs):Option Pg:=match QP 32 line with
 |[]=>none
 |[h]=>if Ql h=true then some ⟨JW h,[]⟩ else none
 |h::r::ws=>if Ql h=true∧Ql r=true then (ws.foldlM Y2 ⟨[(JW r:Int)],(0,0)⟩).map fun s=>⟨JW h,s.reads⟩ else none
def JDU (text:Bs):Option (List Pg):=(Zv text).bind fun ls=>ls.mapM Yc
def JA6 (text:Bs):Option (List Pg):=(JDU text).bind fun l=>if Yg l=0 then some l else none
theorem JRj {w:Bs}{g:Nat × Int}(h:JAi w=some g):w=Zh g∧1≤g.1:=by
 unfold JAi at h
 split at h
 ·next a ha=>
  split at h
  ·next hf=>
   cases h
   have:w=a:=by
    have:=JGm 120 w
    rw [ha,JBW,JMJ] at this
    exact (List.append_cancel_right this).symm
   subst this
   exact ⟨by unfold Zh;simp [JDz hf],Nat.le_refl 1⟩
  ·cases h
 ·next a r hne ha=>
  split at h
  ·next hc=>
   cases h
   obtain ⟨⟨h1,h2⟩,h3,h4⟩:=hc
   have hw:w=a++120::w.drop (a.length+1):=by
    have:=JGm 120 w
    rw [ha,JBW] at this
    have hr:r≠[]:=fun e=>hne e
    have hl:(a++120::ends 120 r).length=w.length+1:=by rw [this];simp
    have hp:1≤(ends 120 r).length:=by
     cases r with
     |nil=>exact absurd rfl hr
     |cons b r=>rw [JBW];simp;omega
    simp at hl
    have h1:(w++[120]).take (a.length+1)=a++[120]:=by
     rw [←this,show a++120::ends 120 r=(a++[120])++ends 120 r by simp,List.take_left' (by simp)]
    have h2:w.take (a.length+1)=a++[120]:=by rw [←h1,List.take_append_of_le_length (by omega)]
    have:=List.take_append_drop (a.length+1) w
    rw [h2] at this
    rw [←this];simp
   refine ⟨?_,by simp;omega⟩
   unfold Zh
   simp only [Int.toNat_natCast]
   rw [if_neg (by omega),JDz h1,JDz h2];exact hw
  ·cases h
 ·cases h
theorem JRk {n:Nat}{d:Int}(h1:1≤n)(h2:n≤16)(h3:0≤d)(h4:d<10^12):JAi (Zh (n,d))=some (n,d):=by
 have hd:((d.toNat:Nat):Int)=d:=Int.toNat_of_nonneg h3
 unfold JAi Zh
 by_cases hn:n=1
 ·subst hn
  simp only [if_true]
  rw [JC3 120 _ (JI6 _)]
  simp only
  rw [if_pos (JDx (by omega)),JEY,hd]
 ·simp only
  rw [if_neg hn,JC2 120 _ _ (JI6 _),JC3 120 _ (JI6 _)]
  simp only
  have e:(QR n++120::QR d.toNat).drop ((QR n).length+1)=QR d.toNat:=by
   rw [show QR n++120::QR d.toNat=(QR n++[120])++QR d.toNat by simp,List.drop_left' (by simp)]
  rw [e,JEY,JEY,if_pos ⟨⟨JDx (by omega),JDx (by omega)⟩,by omega,h2⟩,hd]
theorem JD1:∀(gs:List (Nat × Int)),good gs→∀g∈gs,1≤g.1
 |[],_,_,h=>by cases h
 |[a],h,g,hg=>by simp at hg;subst hg;exact h
 |a::b::l,h,g,hg=>by
  rcases List.mem_cons.1 hg with e|e
  ·subst e;exact h.1
  ·exact JD1 (b::l) h.2.2 g e
theorem JPB {r0:Int}:∀(ws:List Bs) (s s':St) (gs:List (Nat × Int)),good gs→s.reads≠[]→s.reads.head? = some r0→Js s.reads=spread gs→(s.last=(0,0)∧gs=[]∨gs.getLast? = some s.last) →
  ws.foldlM Y2 s=some s' → ∃gs',good gs' ∧ s'.reads≠[]∧s'.reads.head? = some r0∧Js s'.reads=spread gs' ∧ gs'.map Zh=gs.map Zh++ws
 |[],s,s',gs,hg,h0,hh,hd,_,h=>by simp at h;subst h;exact ⟨gs,hg,h0,hh,hd,by simp⟩
 |w::ws,s,s',gs,hg,h0,hh,hd,hl,h=>by
  rw [List.foldlM_cons] at h
  obtain ⟨s1,h1,h2⟩:=Option.bind_eq_some_iff.1 h
  unfold Y2 at h1
  obtain ⟨g,hgw,h3⟩:=Option.bind_eq_some_iff.1 h1
  split at h3
  ·next hc=>
   cases h3
   obtain ⟨hw,hn⟩:=JRj hgw
   have hg':good (gs++[g]):=(JD2 gs g).2 ⟨hg,hn,fun k hk=>by
    rcases hl with ⟨_,e⟩|e
    ·subst e;cases hk
    ·rw [e] at hk
     cases hk
     rcases hc.1 with hz|hz
     ·have:=JD1 gs hg s.last (List.mem_of_getLast? e);omega
     ·exact hz⟩
   have hh':(Jy g.2 g.1 s.reads).head? = some r0:=by
    have:∀(n:Nat) (r:List Int),r.head? = some r0→(Jy g.2 n r).head? = some r0:=by
     intro n
     induction n with
     |zero=>exact fun r h=>h
     |succ n ih=>intro r h;rw [Jy];apply ih;cases r with
      |nil=>cases h
      |cons a l=>exact h
    exact this _ _ hh
   obtain ⟨gs',a1,a2,a3,a4,a5⟩:=JPB ws _ s' (gs++[g]) hg' (JLY _ _ h0) hh' (by rw [JIq _ _ _ h0,hd,JET]) (.inr (by simp)) h2
   exact ⟨gs',a1,a2,a3,a4,by rw [a5,hw];simp⟩
  ·cases h3
theorem JTB {line:Bs}{x:Pg}(h:Yc line=some x):line=Zk x:=by
 unfold Yc at h
 rw [←JPd line]
 unfold Zk
 split at h
 ·cases h
 ·next a ha=>
  split at h
  ·next hf=>cases h;rw [ha];unfold YV;simp [JDz hf]
  ·cases h
 ·next a r ws ha=>
  split at h
  ·next hf=>
   obtain ⟨s,hs,rfl⟩:=Option.map_eq_some_iff.1 h
   obtain ⟨gs,h1,h2,h3,h4,h5⟩:=JPB (r0:=(JW r:Int)) ws _ s [] trivial (by simp) rfl rfl (.inl ⟨rfl,rfl⟩) hs
   rw [ha]
   unfold YV
   cases hr:s.reads with
   |nil=>exact absurd hr h2
   |cons b l=>
    rw [hr] at h3 h4
    simp only [List.head?_cons,Option.some.injEq] at h3
    rw [←hr] at h4
    simp only [hr,h3,Int.toNat_natCast,JDz hf.1,JDz hf.2]
    rw [←h3,←hr,h4,JUA gs h1,h5]
    rfl
  ·cases h
theorem JNQ:∀(ls:List Bs) (l:List Pg),ls.mapM Yc=some l→ls=l.map Zk
 |[],l,h=>by simp at h;subst h;rfl
 |x::ls,l,h=>by
  rw [List.mapM_cons] at h
  obtain ⟨p,h1,h2⟩:=Option.bind_eq_some_iff.1 h
  obtain ⟨ps,h3,h4⟩:=Option.bind_eq_some_iff.1 h2
  simp at h4;subst h4
  rw [List.map_cons,←JTB h1,←JNQ ls ps h3]
theorem JU6 {text:Bs}{l:List Pg}(h:JDU text=some l):Yd l=text:=by
 unfold JDU at h
 obtain ⟨ls,h1,h2⟩:=Option.bind_eq_some_iff.1 h
 unfold Yd
 rw [←JNQ ls l h2,←JSN h1]
theorem JTg:∀(gs:List (Nat × Int)) (r r':List Int),r≠[]→(∃t,r'=r++t)→Js r'=Js r++spread gs→gs.foldl (fun a g=>Jy g.2 g.1 a) r=r':=by
 have key:∀(t:List Int) (r:List Int) ,r≠[]→∀ds,Js (r++t)=Js r++ds→t.length=ds.length:=by
  intro t r h0 ds h
  have:=congrArg List.length h
  rw [List.length_append,JBV,JBV,List.length_append] at this
  have:=List.length_pos_iff.2 h0
  omega
 have one:∀(d:Int) (n:Nat) (r t:List Int),r≠[]→∀ds,Js (r++t)=Js r++(List.replicate n d++ds)→∃t',r++t=Jy d n r++t':=by
  intro d n
  induction n with
  |zero=>exact fun r t _ ds _=>⟨t,rfl⟩
  |succ n ih=>
   intro r t h0 ds h
   cases t with
   |nil=>have:=key [] r h0 _ h;simp at this;omega
   |cons x t=>
    have e:r++x::t=(r++[x])++t:=by simp
    have hx:x-ZR r=d:=by
     have h':=h
     rw [e] at h'
     have hpre:∀(t:List Int) (q:List Int),q≠[]→∃z,Js (q++t)=Js q++z:=by
      intro t
      induction t with
      |nil=>exact fun q _=>⟨[],by simp⟩
      |cons y t ih2=>
       intro q hq
       obtain ⟨z,hz⟩:=ih2 (q++[y]) (by simp)
       refine ⟨(y-ZR q)::z,?_⟩
       rw [show q++y::t=(q++[y])++t by simp,hz,JDu q y hq];simp
     obtain ⟨z,hz⟩:=hpre t (r++[x]) (by simp)
     rw [hz,JDu r x h0,List.append_assoc] at h'
     have:=List.append_cancel_left h'
     rw [List.replicate_succ] at this
     simp at this
     exact this.1
    have hr:r++[x]=r++[ZR r+d]:=by congr 2;omega
    rw [e]
    have:=ih (r++[x]) t (by simp) ds (by
     rw [←e,h,JDu r x h0,hx,List.replicate_succ];simp)
    rw [Jy,←hr]
    exact this
 intro gs
 induction gs with
 |nil=>
  intro r r' h0 ⟨t,ht⟩ h
  subst ht
  have:=key t r h0 [] (by simpa [spread] using h)
  have:t=[]:=List.eq_nil_of_length_eq_zero this
  subst this;simp
 |cons g gs ih=>
  intro r r' h0 ⟨t,ht⟩ h
  subst ht
  have hsp:spread (g::gs)=List.replicate g.1 g.2++spread gs:=by simp [spread]
  rw [hsp] at h
  obtain ⟨t',ht'⟩:=one g.2 g.1 r t h0 _ h
  rw [List.foldl_cons]
  refine ih (Jy g.2 g.1 r) _ (JLY _ _ h0) ⟨t',ht'⟩ ?_
  rw [h,JIq _ _ _ h0,List.append_assoc]
theorem JOp:∀(r:List Int),JAd r=true→∀d∈Js r,0≤d
 |[],_,_,h=>by cases h
 |[_],_,_,h=>by cases h
 |a::b::l,hs,d,h=>by
  simp only [JAd,Bool.and_eq_true,decide_eq_true_eq] at hs
  simp only [Js] at h
  rcases List.mem_cons.1 h with e|e
  ·subst e;omega
  ·exact JOp (b::l) hs.2 d e
theorem JMF:∀(r:List Int),(∀n∈r,inD n 0 1073741824=true)→∀d∈Js r,d≤1073741824
 |[],_,_,h=>by cases h
 |[_],_,_,h=>by cases h
 |a::b::l,hs,d,h=>by
  have ha:=JAj.1 (hs a (by simp))
  have hb:=JAj.1 (hs b (by simp))
  simp only [Js] at h
  rcases List.mem_cons.1 h with e|e
  ·subst e;omega
  ·exact JMF (b::l) (fun n hn=>hs n (by simp [hn])) d e
theorem JU2 {gs:List (Nat × Int)}(hg:good gs){g:Nat × Int}(h:g∈gs):g.2∈spread gs:=by
 have:=JD1 gs hg g h
 unfold spread
 exact List.mem_flatten.2 ⟨_,List.mem_map.2 ⟨g,h,rfl⟩,List.mem_replicate.2 ⟨by omega,rfl⟩⟩
def Ji (gs:List (Nat × Int)):Nat:=(gs.map Prod.fst).sum
theorem JOr (gs:List (Nat × Int)):(spread gs).length=Ji gs:=by
 induction gs with
 |nil=>rfl
 |cons g gs ih=>simp only [spread,Ji,List.map_cons,List.flatten_cons,List.length_append,List.length_replicate,List.sum_cons] at ih ⊢;omega
structure JPI (x:Pg) (r:Int) (gs:List (Nat × Int)):Prop where
 good:good gs
 eq:runs (Js x.reads)=gs
 reads:gs.foldl (fun a g=>Jy g.2 g.1 a) [r]=x.reads
 by0:∀g∈gs,0≤g.2∧g.2≤1073741824
 len:1+Ji gs≤16
theorem JFg {x:Pg}(hx:Yb x=true){r:Int}{t:List Int}(hr:x.reads=r::t):JPI x r (runs (Js x.reads)):=by
 unfold Yb at hx
 simp only [Bool.and_eq_true,decide_eq_true_eq] at hx
 obtain ⟨⟨⟨_,h2⟩,h3⟩,h4⟩:=hx
 obtain ⟨g1,g2⟩:=JOK (Js x.reads)
 have h3':=List.all_eq_true.1 h3
 refine ⟨g1,rfl,JTg _ [r] x.reads (by simp) ⟨t,by rw [hr];rfl⟩ (by rw [g2];rfl),fun g hg=>?_,?_⟩
 ·have hm:g.2∈Js x.reads:=by
   have:=JU2 g1 hg
   rwa [g2] at this
  exact ⟨JOp _ h4 _ hm,JMF _ h3' _ hm⟩
 ·have:=JOr (runs (Js x.reads))
  rw [g2,JBV] at this
  rw [hr] at this h2 ⊢
  simp at this h2
  omega
theorem JPA:∀(gs:List (Nat × Int)) (s:St),good gs→(∀g∈gs,0≤g.2∧g.2≤1073741824)→s.reads.length+Ji gs≤16→(∀g,gs.head? = some g→s.last.1=0∨s.last.2≠g.2) →
  ∃q,(gs.map Zh).foldlM Y2 s=some ⟨gs.foldl (fun a g=>Jy g.2 g.1 a) s.reads,q⟩
 |[],s,_,_,_,_=>⟨s.last,rfl⟩
 |(n,d)::gs,s,hg,h0,hl,hd=>by
  have hn:1≤n:=JD1 _ hg (n,d) (by simp)
  have hb:=h0 (n,d) (by simp)
  have ht:Ji ((n,d)::gs)=n+Ji gs:=by simp [Ji]
  rw [ht] at hl
  have e:Y2 s (Zh (n,d))=some ⟨Jy d n s.reads,(n,d)⟩:=by
   unfold Y2
   rw [JRk hn (by omega) hb.1 (by simp at hb;omega)]
   show (if _ then _ else _)=_
   rw [if_pos ⟨hd (n,d) rfl,by simp;omega⟩]
  have hg':good gs:=by
   cases gs with
   |nil=>trivial
   |cons b l=>exact hg.2.2
  obtain ⟨q,hq⟩:=JPA gs ⟨Jy d n s.reads,(n,d)⟩ hg' (fun g hm=>h0 g (by simp [hm])) (by simp only [Zs];omega) (fun g hh=>by
   cases gs with
   |nil=>cases hh
   |cons b l=>simp at hh;subst hh;exact .inr hg.2.1)
  refine ⟨q,?_⟩
  rw [List.map_cons,List.foldlM_cons,e]
  exact hq
theorem JTC {x:Pg}(h:Yb x=true):Yc (Zk x)=some x:=by
 have h':=h
 unfold Yb at h'
 simp only [Bool.and_eq_true,decide_eq_true_eq,JAj] at h'
 obtain ⟨⟨⟨h1,h2⟩,h3⟩,h4⟩:=h'
 have hh:((x.house.toNat:Nat):Int)=x.house:=Int.toNat_of_nonneg h1.1
 unfold Yc
 rw [JQ2]
 unfold YV
 cases hr:x.reads with
 |nil=>
  simp only
  rw [if_pos (JDx (by omega)),JEY,hh,←hr]
 |cons r t=>
  have hp:=JFg h hr
  have hr0:=JAj.1 (List.all_eq_true.1 h3 r (by rw [hr];simp))
  have hrn:((r.toNat:Nat):Int)=r:=Int.toNat_of_nonneg hr0.1
  simp only
  rw [if_pos ⟨JDx (by omega),JDx (by omega)⟩,JEY,JEY,hh,hrn,←hr]
  obtain ⟨q,hq⟩:=JPA (runs (Js x.reads)) ⟨[r],(0,0)⟩ hp.good hp.by0 (by have:=hp.len;simp;omega) (fun _ _=>.inl rfl)
  rw [hq,hp.reads]
  rfl
theorem JU7 {l:List Pg}(h:Yg l=0):JDU (Yd l)=some l:=by
 have hok:=(JIs h).2.1
 unfold JDU Yd
 rw [JSO JTI]
 show List.mapM Yc _=_
 clear h
 induction l with
 |nil=>rfl
 |cons x l ih=>
  simp only [List.all_cons,Bool.and_eq_true] at hok
  rw [List.map_cons,List.mapM_cons,JTC hok.1,ih hok.2];rfl
theorem JTJ {text:Bs}{l:List Pg}:JA6 text=some l↔Yg l=0∧Yd l=text:=by
 unfold JA6
 constructor
 ·intro h
  obtain ⟨l',h1,h2⟩:=Option.bind_eq_some_iff.1 h
  split at h2
  ·next hc=>cases h2;exact ⟨hc,JU6 h1⟩
  ·cases h2
 ·rintro ⟨h1,h2⟩
  subst h2
  rw [JU7 h1]
  show (if _ then _ else _)=_
  rw [if_pos h1]
end Go.Bk
namespace Go.Bk
abbrev Bits:=List Bool
def JDK:Nat→Nat→Bits
 |0,_=>[]
 |k+1,n=>JDK k (n / 2)++[n%2==1]
def JKn (s:Bits):Nat:=s.foldl (fun n b=>2*n+b.toNat) 0
def bl (n:Nat):Nat:=if h:n<2 then 1 else bl (n / 2)+1
termination_by n
decreasing_by omega
def JG9 (n:Nat):Bits:=JDK (2*bl n-1) n
structure Pl where
 num:Int
 cls:Int
 day:Int
 deriving DecidableEq,Inhabited
def JNb (s:Bits):Nat:=s.count true
def JGb (x:Pl)(last:Int):Bits:=JG9 (x.num-last).toNat++(JDK 3 x.cls.toNat++JDK 18 x.day.toNat)
def JJ0 (s:Bits):Bool:=JNb s%2==1
def JNp (x:Pl)(last:Int):Bits:=JGb x last++[JJ0 (JGb x last)]
def JPr (s:Bits):UInt8:=UInt8.ofNat (JKn s)
def JNg:Nat→Bits→Bs
 |0,_=>[]
 |k+1,s=>JPr (s.take 8)::JNg k (s.drop 8)
def pack (s:Bits):Bs:=JNg (s.length / 8) s
end Go.Bk
namespace Go.Mw
open Go.Proofs Go.Bk
theorem Jj:Tryz.prog.follows .mixedOrders=true:=by kernel_rfl
abbrev D.i (n:Int):D:=.raw (.int .i64 n)
@[go_sem] def JAK (n:Int):List D:=[.i n]
abbrev JDC (l:List Int):D:=.sl 1 (l.map JAK)
@[go_sem] def encStr (l:Bs):List D:=[.raw (.string (bs l))]
abbrev JHk (l:List Bs):D:=.sl 1 (l.map encStr)
@[go_sem] def JQ8 (t:Tr):List D:=[.i t.flow,.i t.pour,.i t.shown]
abbrev JVR (l:List Tr):D:=.sl 3 (l.map JQ8)
@[go_sem] def JWX (x:Sh):List D:=[.i x.meter,JVR x.tries]
@[go_sem] def JWW (x:Pl):List D:=[.i x.num,.i x.cls,.i x.day]
@[go_sem] def Zt (x:Pg):List D:=[.i x.house,JDC x.reads]
abbrev JA7 (l:List Pg):D:=.sl 2 (l.map Zt)
abbrev pgV (x:Pg):AV:=.val true ((Zt x).map .d)
def JIR (z:Bool):AL:=bif z then .ptr 990 0 else .d (.raw (.pointer none))
def JIc (l:Bs):AL:=if l=[] then .d (.raw (.slice none 0 0)) else .own 901 0 l.length l.length
def JHR (z:Bool)(l:Bs):List (Nat × AO):=[(990,.cells [JIR z,JIc l]),(901,.arr 5 1 (Qp l))]
theorem JLk:JIc []=.d (.raw (.slice none 0 0)):=rfl
theorem JId {l:Bs}(h:l≠[]):JIc l=.own 901 0 l.length l.length:=if_neg h
theorem JLQ:JIR true=.ptr 990 0:=rfl
theorem JLP:JIR false=.d (.raw (.pointer none)):=rfl
theorem JNX (v:Value)(w:World):(callFunc 179 #[v]).run Tryz.prog w=.ok (.value v) w:=by
 rw [run_callFunc_extern Tryz.func179 JL JL JL (e:=Extern.AbiNoEscape.same) JL,Lib.run_noEscape];rfl
end Go.Mw
namespace Go.Mw
open Go.Proofs
open Go.Bk
theorem JLw (z:Bool)(l:Bs):Qg Tryz.prog 146 [.leaf (.ptr 990 0)] (JHR z l) (.ret (.tup []) (JHR true l)):=by
 unfold JHR
 rcases Bool.eq_false_or_eq_true z with hz|hz<;>subst hz<;>by_cases hl:l=[]
 ·skip
  subst hl
  rw [JLk]
  refine Jq Jj Tryz.func146 rfl JF5 JL rfl ?_
  refine JB.reg ?_
  iterate 5 (refine JA.o1 ZN ?_)
  refine JA.nil ?_
  refine JB.cnd ZN (fun hb6=>?_) (fun hb6=>?_)
  ·exact absurd hb6 (by simp)
  ·skip
   refine JB.reg ?_
   iterate 5 (refine JA.o1 ZN ?_)
   refine JA.val (JOQ Tryz.underlying86 JL JF JF JF) rfl JF ?_ 
   refine JA.nil ?_
   refine JB.cnd ZN (fun hb19=>?_) (fun hb19=>?_)
   ·exact absurd hb19 (by simp)
   ·skip
    exact Ends.fin0 [990,901] (rs:=[]) rfl ZN JF8
 ·skip
  have hb:=JId hl
  rw [hb]
  refine Jq Jj Tryz.func146 rfl JF5 JL rfl ?_
  refine JB.reg ?_
  iterate 5 (refine JA.o1 ZN ?_)
  refine JA.nil ?_
  refine JB.cnd ZN (fun hb6=>?_) (fun hb6=>?_)
  ·exact absurd hb6 (by simp)
  ·skip
   refine JB.reg ?_
   iterate 5 (refine JA.o1 ZN ?_)
   refine JA.val (JOQ Tryz.underlying86 JL JF JF JF) rfl JF ?_ 
   refine JA.nil ?_
   refine JB.cnd ZN (fun hb19=>?_) (fun hb19=>?_)
   ·exact absurd hb19 (by simp)
   ·skip
    exact Ends.fin0 [990,901] (rs:=[]) rfl ZN JF8
 ·skip
  subst hl
  rw [JLk]
  refine Jq Jj Tryz.func146 rfl JF5 JL rfl ?_
  refine JB.reg ?_
  iterate 5 (refine JA.o1 ZN ?_)
  refine JA.nil ?_
  refine JB.cnd ZN (fun hb6=>?_) (fun hb6=>?_)
  ·skip
   refine JB.reg1 ?_
   iterate 2 (refine JA.o1 ZN ?_)
   refine JA.val (JOT Tryz.underlying86 Tryz.underlying250 (k:=2) JL (by decide) JF JF (by simp)) rfl JF ?_ 
   refine JA.val (JOS JNX JF JF) rfl JF ?_ 
   refine JA.val (JOR Tryz.underlying250 Tryz.underlying86 JL JF JF (T:=90) rfl JL) rfl JF ?_ 
   iterate 3 (refine JA.o1 ZN ?_)
   refine JA.nil ?_
   exact Ends.fin0 [990,901] (rs:=[]) rfl ZN JF8
  ·exact absurd hb6 (by simp)
 ·skip
  have hb:=JId hl
  rw [hb]
  refine Jq Jj Tryz.func146 rfl JF5 JL rfl ?_
  refine JB.reg ?_
  iterate 5 (refine JA.o1 ZN ?_)
  refine JA.nil ?_
  refine JB.cnd ZN (fun hb6=>?_) (fun hb6=>?_)
  ·skip
   refine JB.reg1 ?_
   iterate 2 (refine JA.o1 ZN ?_)
   refine JA.val (JOT Tryz.underlying86 Tryz.underlying250 (k:=2) JL (by decide) JF JF (by simp)) rfl JF ?_ 
   refine JA.val (JOS JNX JF JF) rfl JF ?_ 
   refine JA.val (JOR Tryz.underlying250 Tryz.underlying86 JL JF JF (T:=90) rfl JL) rfl JF ?_ 
   iterate 3 (refine JA.o1 ZN ?_)
   refine JA.nil ?_
   exact Ends.fin0 [990,901] (rs:=[]) rfl ZN JF8
  ·exact absurd hb6 (by simp)
end Go.Mw
namespace Go.Mw
open Go.Proofs
open Go.Bk
theorem JQp:Qg Tryz.prog 146 [.leaf (.ptr 990 0)] [(990,.cells [.d (.raw (.pointer none)),.d (.raw (.slice none 0 0))]),(901,.arr 5 1 [])] (.ret (.tup []) [(990,.cells [.ptr 990 0,.d (.raw (.slice none 0 0))]),(901,.arr 5 1 [])]):=JLw false []
theorem JL5 {l:Bs}(h:l≠[]):Qg Tryz.prog 146 [.leaf (.ptr 990 0)] [(990,.cells [.ptr 990 0,.own 901 0 l.length l.length]),(901,.arr 5 1 (Qp l))] (.ret (.tup []) [(990,.cells [.ptr 990 0,.own 901 0 l.length l.length]),(901,.arr 5 1 (Qp l))]):=by
 have:=JLw true l
 unfold JHR at this
 rw [JId h] at this
 exact this
theorem JPo:Qp []=[]:=rfl
theorem JQE (l s:Bs)(hls:l++s≠[])(hlen:l.length+s.length≤140737488355328):Qg Tryz.prog 103 [.leaf (.ptr 990 0),.str s] [(990,.cells (Qu 990 901 l)),(901,.arr 5 1 (Qp l))] (.ret (.tup [(false,[.d (.i s.length)]),(false,[.d (.raw .nilIface)])]) [(990,.cells (Qu 990 901 (l++s))),(901,.arr 5 1 (Qp (l++s)))]):=by
 by_cases hl:l=[]
 ·skip
  subst hl
  have hs:s≠[]:=hls
  rw [JJ1,JEI hls]
  refine Jq Jj Tryz.func103 rfl (by simp only [List.length_cons,List.length_nil,Tryz.ntmps103];omega) JL rfl ?_
  refine JB.reg ?_
  iterate 2 (refine JA.o ?_)
  refine JA.nil (JB.reg ?_)
  refine JA.o ?_
  refine JA.lendG [(990,990),(901,901)] JF (JQp) Jr (.inl ⟨[],by simp only [go_sem]<;>rfl,rfl⟩) JF V15 rfl (by decide) V45 V55 V39 V77 JF ?_
  refine JA.nil (JB.reg ?_)
  iterate 6 (refine JA.o ?_)
  first|refine JA.appS 901 l s V84 JF JF Tryz.underlying53 Tryz.underlying9 (i:=Tryz.t5) JL ⟨by kernel_rfl,by kernel_rfl,by kernel_rfl⟩ hlen JF ?_|refine JA.appS 901 [] s V84 JF JF Tryz.underlying53 Tryz.underlying9 (i:=Tryz.t5) JL ⟨by kernel_rfl,by kernel_rfl,by kernel_rfl⟩ hlen JF ?_
  iterate 3 (refine JA.o ?_)
  refine JA.nil (JB.reg ?_)
  iterate 4 (refine JA.o ?_)
  refine JA.nil ?_
  exact Ends.fin [990,901] (rs:=[.tmp 4,.tmp 5]) rfl JF Y3
 ·skip
  rw [JEI hl,JEI hls]
  refine Jq Jj Tryz.func103 rfl (by simp only [List.length_cons,List.length_nil,Tryz.ntmps103];omega) JL rfl ?_
  refine JB.reg ?_
  iterate 2 (refine JA.o ?_)
  refine JA.nil (JB.reg ?_)
  refine JA.o ?_
  refine JA.lendG [(990,990),(901,901)] JF (JL5 hl) Jr (.inl ⟨[],by simp only [go_sem]<;>rfl,rfl⟩) JF V15 rfl (by decide) V45 V55 V39 V77 JF ?_
  refine JA.nil (JB.reg ?_)
  iterate 6 (refine JA.o ?_)
  first|refine JA.appS 901 l s V84 JF JF Tryz.underlying53 Tryz.underlying9 (i:=Tryz.t5) JL ⟨by kernel_rfl,by kernel_rfl,by kernel_rfl⟩ hlen JF ?_|refine JA.appS 901 [] s V84 JF JF Tryz.underlying53 Tryz.underlying9 (i:=Tryz.t5) JL ⟨by kernel_rfl,by kernel_rfl,by kernel_rfl⟩ hlen JF ?_
  iterate 3 (refine JA.o ?_)
  refine JA.nil (JB.reg ?_)
  iterate 4 (refine JA.o ?_)
  refine JA.nil ?_
  exact Ends.fin [990,901] (rs:=[.tmp 4,.tmp 5]) rfl JF Y3
theorem JQD (l:Bs)(c:UInt8)(hl:l≠[])(hlen:l.length+1≤140737488355328):Qg Tryz.prog 104 [.leaf (.ptr 990 0),.raw (.int .u8 c.toNat)] [(990,.cells (Qu 990 901 l)),(901,.arr 5 1 (Qp l))] (.ret (.raw .nilIface) [(990,.cells (Qu 990 901 (l++[c]))),(901,.arr 5 1 (Qp (l++[c])))]):=by
 have hne:l++[c]≠[]:=by simp
 rw [JEI hl,JEI hne]
 have hbl:=JDp l
 refine Jq Jj Tryz.func104 rfl (by simp only [List.length_cons,List.length_nil,Tryz.ntmps104];omega) JL rfl ?_
 refine JB.reg ?_
 have X:=Fx.mk hbl
 refine JA.o1 JC ?_
 refine JA.nil (JB.reg ?_)
 refine JA.o1 JC ?_
 refine JA.lendG [(990,990),(901,901)] JF (JL5 hl) Jr (.inl ⟨[],by simp only [go_sem]<;>rfl,rfl⟩) JF V15 rfl (by decide) V45 V55 V39 V77 JF ?_
 refine JA.nil (JB.reg ?_)
 iterate 7 (refine JA.o1 JC ?_)
 refine JA.o1 V6 ?_
 iterate 3 (refine JA.o1 JC ?_)
 refine JA.nil (JB.reg ?_)
 refine JA.o1 JC ?_
 refine JA.nil ?_
 exact Ends.fin [990,901] (rs:=[.tmp 4]) rfl JC (by simp only [go_sem,X.h]<;>first|rfl|((repeat' (first|with_reducible_and_instances rfl|refine Q6 ?_ ?_ ?_|refine Q4 ?_|refine Q8 ?_|refine Q7 ?_ ?_|refine Qw ?_|refine Qy ?_|refine Q9 ?_|refine Q1 ?_ ?_|refine Q3 ?_ ?_|refine Q5 ?_|refine Qx ?_|(refine Qz ?_;omega)));all_goals (first|omega|(simp [Qp];done))))
theorem JLy (l:Bs)(ws:List Bs)(hw:blanks ws≠[])(hn:ws.length≤1000000)(hlen:l.length+(blanks ws).length+1≤140737488355328):Qg Tryz.prog 49 [.leaf (.ptr 990 0),.leaf (.d (JHk ws))] [(990,.cells (Qu 990 901 l)),(901,.arr 5 1 (Qp l))] (.ret (.tup []) [(990,.cells (Qu 990 901 (l++blanks ws++[10]))),(901,.arr 5 1 (Qp (l++blanks ws++[10])))]):=by
 have hj:=JMq ws
 have hne:l++blanks ws≠[]:=by simp [hw]
 have hl2:(l++blanks ws).length=l.length+(blanks ws).length:=List.length_append
 refine Jq Jj Tryz.func49 rfl (by simp only [List.length_cons,List.length_nil,Tryz.ntmps49];omega) JL rfl ?_
 refine JB.opk 8 ?_
 have X:=Fx.mk hj
 iterate 4 (refine JG.o1 JC ?_)
 refine JG.cal (JP4 ws [32] (by omega) (by rw [hj];omega)) Jr JC Z4 (Yr) JC JF JF ?_
 refine JG.lendG (ds:=[]) [(990,990),(901,901)] JF (JQE l (blanks ws) hne (by omega)) Jr JF JF V27 rfl (by decide) JGD V55 V37 rfl JF JF JF ?_
 refine JG.nil (QK.fin Qb Qb ?_)
 refine JB.reg1 ?_
 iterate 3 (refine JA.o1 JC ?_)
 refine JA.lendG [(990,990),(901,901)] JF (JQD (l++blanks ws) 10 hne (by omega)) Jr (.inl ⟨[],by simp only [go_sem]<;>rfl,rfl⟩) JF V7 rfl (by decide) JGD V55 V37 V77 JF ?_
 refine JA.nil ?_
 exact Ends.fin0 [990,901] (rs:=[]) rfl JC Qk
end Go.Mw
namespace Go.Bk
open Go Go.Mw
theorem JGd (l:Bs)(p:Nat)(h:p<l.length):(bs l)[p]'(by rw [Z5];exact h)=l[p]:=by
 have:=JLj l p
 rw [getElem?_pos (bs l) p (by rw [Z5];exact h),List.getElem?_eq_getElem h] at this
 exact Option.some.inj this
theorem JGp (l:Bs)(p:Nat)(h:p<l.length)(ha:l[p].toNat<128):Utf8.decode (bs l) p=(l[p].toNat,1):=by
 have:=decode_ascii (bs l) p (by rw [Z5];exact h) (by rw [JGd l p h];exact ha)
 rw [JGd l p h] at this
 exact this
theorem JQv (l:Bs)(p k:Nat)(h:p+k<l.length)(hc:((bs l).get! (p+k)).toNat / 64=2):128≤(l[p+k]).toNat:=by
 have e:(bs l).get! (p+k)=l[p+k]:=by
  have h1:(bs l).get! (p+k)=(bs l)[p+k]'(by rw [Z5];exact h):=by
   rw [ByteArray.get!]
   show (bs l).data[p+k]! = _
   rw [getElem!_pos]
   rfl
  rw [h1,JGd l _ h]
 rw [e] at hc
 omega
theorem JQ5 (l:Bs)(p:Nat)(h:p<l.length)(ha:128≤l[p].toNat):128≤(Utf8.decode (bs l) p).1∧1≤(Utf8.decode (bs l) p).2∧p+(Utf8.decode (bs l) p).2≤l.length ∧
  ∀i (hi:i<l.length),p≤i→i<p+(Utf8.decode (bs l) p).2→128≤l[i].toNat:=by
 obtain ⟨h1,h2⟩:=decode_high (bs l) p (by rw [Z5];exact h) (by rw [JGd l p h];exact ha)
 refine ⟨h1,h2,?_⟩
 have hone:∀i (hi:i<l.length),p≤i→i<p+1→128≤l[i].toNat:=fun i hi h3 h4=>by
  have:i=p:=by omega
  subst this;exact ha
 have c1:∀k,p+k<l.length→((bs l).get! (p+k)).toNat / 64=2→∀i (hi:i<l.length),i=p+k→128≤l[i].toNat:=fun k hk hc i hi e=>by subst e;exact JQv l p k hk hc
 unfold Utf8.decode
 simp only [Z5,Bool.and_eq_true,decide_eq_true_eq,beq_iff_eq]
 split
 ·exact ⟨by simp;omega,hone⟩
 ·split
  ·rename_i hh
   have e1:=c1 1 hh.2.1 hh.2.2
   split
   ·refine ⟨by simp;omega,fun i hi h3 h4=>?_⟩
    simp at h4
    by_cases e:i=p
    ·exact hone i hi (by omega) (by omega)
    ·exact e1 i hi (by omega)
   ·exact ⟨by simp;omega,hone⟩
  ·split
   ·rename_i hh
    have e1:=c1 1 hh.1.2.1 hh.1.2.2
    have e2:=c1 2 hh.2.1 hh.2.2
    split
    ·refine ⟨by simp;omega,fun i hi h3 h4=>?_⟩
     simp at h4
     by_cases e:i=p
     ·exact hone i hi (by omega) (by omega)
     ·by_cases e':i=p+1
      ·exact e1 i hi e'
      ·exact e2 i hi (by omega)
    ·exact ⟨by simp;omega,hone⟩
   ·split
    ·rename_i hh
     have e1:=c1 1 hh.1.1.2.1 hh.1.1.2.2
     have e2:=c1 2 hh.1.2.1 hh.1.2.2
     have e3:=c1 3 hh.2.1 hh.2.2
     split
     ·refine ⟨by simp;omega,fun i hi h3 h4=>?_⟩
      simp at h4
      by_cases e:i=p
      ·exact hone i hi (by omega) (by omega)
      ·by_cases e':i=p+1
       ·exact e1 i hi e'
       ·by_cases e'':i=p+2
        ·exact e2 i hi e''
        ·exact e3 i hi (by omega)
     ·exact ⟨by simp;omega,hone⟩
    ·exact ⟨by simp;omega,hone⟩
theorem JT9 {l:Bs}{p:Nat}(h:p<l.length)(h1:48≤(Utf8.decode (bs l) p).1)(h2:(Utf8.decode (bs l) p).1≤57):(Utf8.decode (bs l) p).2=1∧l[p].toNat=(Utf8.decode (bs l) p).1∧YS l[p]=true:=by
 by_cases ha:l[p].toNat<128
 ·have:=JGp l p h ha
  rw [this] at h1 h2 ⊢
  exact ⟨rfl,rfl,JJG.2 ⟨h1,h2⟩⟩
 ·have:=(JQ5 l p h (by omega)).1
  omega
end Go.Bk
namespace Go.Mw
open Go.Proofs
open Go.Bk
attribute [local go_sem] decide_true beq_self_eq_true bne_self_eq_false
def QW:Value:=.iface 172 (.agg #[.int .i64 8])
theorem JGj (n l h:Int):Jf Tryz.prog 142 [.int n,.int l,.int h] (.bool (inD n l h)) []:=by
 refine Jq Jj Tryz.func142 rfl (by simp only [List.length_cons,List.length_nil,Tryz.ntmps142];omega) JL rfl ?_
 refine JB.reg ?_
 refine JA.o1 JEi ?_
 refine JA.nil (JB.reg ?_)
 iterate 4 (refine JA.o1 JEi ?_)
 iterate 3 (refine JA.gop JF JEi JF ?_)
 iterate 2 (refine JA.o1 JEi ?_)
 refine JA.nil ?_
 exact Ends.fin [] (rs:=[.tmp 6]) rfl JEi (by simp only [go_sem,inD]<;>first|rfl|exact QB)
theorem ZF (b:Bool)(h:b=true):Jf Tryz.prog 55 [.bool b] (.tup []) []:=by
 subst h
 refine Jq Jj Tryz.func55 rfl (by simp only [List.length_cons,List.length_nil,Tryz.ntmps55];omega) JL rfl ?_
 refine JB.reg ?_
 iterate 2 (refine JA.o ?_)
 refine JA.nil ?_
 refine JB.cnd JF (fun hb3=>?_) (fun hb3=>?_)
 ·exact absurd hb3 (by simp)
 ·skip
  exact Ends.fin0 [] (rs:=[]) rfl JF Y3
theorem JBO (b:Bool)(h:b=false):YW Tryz.prog QW 55 [.bool b] []:=by
 subst h
 refine JAC Jj Tryz.func55 rfl (by simp only [List.length_cons,List.length_nil,Tryz.ntmps55];omega) JL rfl ?_
 refine JB.reg ?_
 iterate 2 (refine JA.o ?_)
 refine JA.nil ?_
 refine JB.cnd JF (fun hb3=>?_) (fun hb3=>?_)
 ·skip
  refine JB.pan1 (pv:=QW) 2 rfl ?_
  iterate 2 (refine JA.o ?_)
  exact JA.pani (us:=[.int .i64 8]) JF rfl rfl
 ·exact absurd hb3 (by simp)
end Go.Mw
namespace Go.Mw
open Go.Proofs
open Go.Bk
attribute [local go_sem] decide_true beq_self_eq_true bne_self_eq_false
end Go.Mw
namespace Go.Mw
open Go.Proofs
open Go.Bk
attribute [local go_sem] decide_true beq_self_eq_true bne_self_eq_false
theorem g64:∃g,Tryz.prog.globalNamed "internal/strconv.uint64pow10" = some g:=Option.isSome_iff_exists.1 (show (Tryz.prog.globalNamed "internal/strconv.uint64pow10").isSome=true by kernel_rfl)
theorem JLp (n:Nat)(h:n≤9223372036854775807):Jf Tryz.prog 46 [.int n] (.str (QR n)) []:=by
 obtain ⟨g,hg⟩:=g64
 have:=JP3 (n:Int) (by omega) (by omega) g hg
 rwa [JR0] at this
theorem JGf (m:Int)(h0:0≤m)(h1:m≤9223372036854775807):Jf Tryz.prog 46 [.int m] (.str (QR m.toNat)) []:=by
 have:=JLp m.toNat (by omega)
 rwa [Int.toNat_of_nonneg h0] at this
end Go.Mw
