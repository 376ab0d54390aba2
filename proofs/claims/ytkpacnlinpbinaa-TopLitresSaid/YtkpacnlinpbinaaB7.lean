/- Closed facts on the program's table of types. -/
import Derived.Test.YtkpacnlinpbinaaD1
import Derived.Test.YtkpacnlinpbinaaProg
import Derived.Test.YtkpacnlinpbinaaB4
import Derived.Test.YtkpacnlinpbinaaB6
import Derived.Test.YtkpacnlinpbinaaB5
set_option maxRecDepth 20000
set_option maxHeartbeats 4000000
set_option linter.unusedSimpArgs false
set_option linter.unusedVariables false
set_option linter.unusedSectionVars false
set_option linter.deprecated false
namespace Go.Mw
open Go.Proofs
@[go_sem] theorem f_t3:tySize Try.prog 3=some 1∧tyBytes Try.prog 3=some 8∧tyAg Try.prog 3=some false∧tyEl Try.prog 3=none∧tyInt Try.prog 3=some IntKind.i64∧tyStr Try.prog 3=false∧tyBool Try.prog 3=false∧tyArr Try.prog 3=none∧tyArrA Try.prog 3=none∧tyInts Try.prog 3=none∧tyPlaces Try.prog 3=none∧zeroLs Try.prog 3=some (false,[D.raw (Value.int IntKind.i64 (0))])∧Program.concrete Try.prog 3=true:=by and_intros<;>kernel_rfl
@[go_sem] theorem f_t4:tySize Try.prog 4=some 1∧tyBytes Try.prog 4=some 1∧tyAg Try.prog 4=some false∧tyEl Try.prog 4=none∧tyInt Try.prog 4=none∧tyStr Try.prog 4=false∧tyBool Try.prog 4=true∧tyArr Try.prog 4=none∧tyArrA Try.prog 4=none∧tyInts Try.prog 4=none∧tyPlaces Try.prog 4=none∧zeroLs Try.prog 4=some (false,[D.raw (Value.bool false)])∧Program.concrete Try.prog 4=true:=by and_intros<;>kernel_rfl
@[go_sem] theorem f_t5:tySize Try.prog 5=some 1∧tyBytes Try.prog 5=some 1∧tyAg Try.prog 5=some false∧tyEl Try.prog 5=none∧tyInt Try.prog 5=some IntKind.u8∧tyStr Try.prog 5=false∧tyBool Try.prog 5=false∧tyArr Try.prog 5=none∧tyArrA Try.prog 5=none∧tyInts Try.prog 5=none∧tyPlaces Try.prog 5=none∧zeroLs Try.prog 5=some (false,[D.raw (Value.int IntKind.u8 (0))])∧Program.concrete Try.prog 5=true:=by and_intros<;>kernel_rfl
@[go_sem] theorem f_t9:tySize Try.prog 9=some 1∧tyBytes Try.prog 9=some 16∧tyAg Try.prog 9=some false∧tyEl Try.prog 9=none∧tyInt Try.prog 9=none∧tyStr Try.prog 9=true∧tyBool Try.prog 9=false∧tyArr Try.prog 9=none∧tyArrA Try.prog 9=none∧tyInts Try.prog 9=none∧tyPlaces Try.prog 9=none∧zeroLs Try.prog 9=some (false,[D.raw (Value.string (ByteArray.mk (List.toArray [])))])∧Program.concrete Try.prog 9=true:=by and_intros<;>kernel_rfl
@[go_sem] theorem f_t22:tySize Try.prog 22=some 1∧tyBytes Try.prog 22=some 24∧tyAg Try.prog 22=some false∧tyEl Try.prog 22=some 52∧tyInt Try.prog 22=none∧tyStr Try.prog 22=false∧tyBool Try.prog 22=false∧tyArr Try.prog 22=none∧tyArrA Try.prog 22=none∧tyInts Try.prog 22=none∧tyPlaces Try.prog 22=none∧zeroLs Try.prog 22=some (false,[D.raw (Value.slice none 0 0)])∧Program.concrete Try.prog 22=true:=by and_intros<;>kernel_rfl
@[go_sem] theorem f_t24:tySize Try.prog 24=some 5∧tyBytes Try.prog 24=some 40∧tyAg Try.prog 24=some true∧tyEl Try.prog 24=none∧tyInt Try.prog 24=none∧tyStr Try.prog 24=false∧tyBool Try.prog 24=false∧tyArr Try.prog 24=none∧tyArrA Try.prog 24=none∧tyInts Try.prog 24=none∧tyPlaces Try.prog 24=some [(0,1),(1,1),(2,1),(3,1),(4,1)]∧zeroLs Try.prog 24=some (true,[D.raw (Value.int IntKind.i64 (0)),D.raw (Value.int IntKind.i64 (0)),D.raw (Value.bool false),D.raw (Value.int IntKind.i64 (0)),D.raw (Value.int IntKind.i64 (0))])∧Program.concrete Try.prog 24=true:=by and_intros<;>kernel_rfl
@[go_sem] theorem f_t25:tySize Try.prog 25=some 1∧tyBytes Try.prog 25=some 24∧tyAg Try.prog 25=some false∧tyEl Try.prog 25=some 54∧tyInt Try.prog 25=none∧tyStr Try.prog 25=false∧tyBool Try.prog 25=false∧tyArr Try.prog 25=none∧tyArrA Try.prog 25=none∧tyInts Try.prog 25=none∧tyPlaces Try.prog 25=none∧zeroLs Try.prog 25=some (false,[D.raw (Value.slice none 0 0)])∧Program.concrete Try.prog 25=true:=by and_intros<;>kernel_rfl
@[go_sem] theorem f_t27:tySize Try.prog 27=some 3∧tyBytes Try.prog 27=some 40∧tyAg Try.prog 27=some true∧tyEl Try.prog 27=none∧tyInt Try.prog 27=none∧tyStr Try.prog 27=false∧tyBool Try.prog 27=false∧tyArr Try.prog 27=none∧tyArrA Try.prog 27=none∧tyInts Try.prog 27=none∧tyPlaces Try.prog 27=some [(0,1),(1,1),(2,1)]∧zeroLs Try.prog 27=some (true,[D.raw (Value.int IntKind.i64 (0)),D.raw (Value.int IntKind.i64 (0)),D.raw (Value.slice none 0 0)])∧Program.concrete Try.prog 27=true:=by and_intros<;>kernel_rfl
@[go_sem] theorem f_t28:tySize Try.prog 28=some 1∧tyBytes Try.prog 28=some 2∧tyAg Try.prog 28=some false∧tyEl Try.prog 28=none∧tyInt Try.prog 28=some IntKind.u16∧tyStr Try.prog 28=false∧tyBool Try.prog 28=false∧tyArr Try.prog 28=none∧tyArrA Try.prog 28=none∧tyInts Try.prog 28=none∧tyPlaces Try.prog 28=none∧zeroLs Try.prog 28=some (false,[D.raw (Value.int IntKind.u16 (0))])∧Program.concrete Try.prog 28=true:=by and_intros<;>kernel_rfl
@[go_sem] theorem f_t33:tySize Try.prog 33=some 1∧tyBytes Try.prog 33=some 24∧tyAg Try.prog 33=some false∧tyEl Try.prog 33=some 56∧tyInt Try.prog 33=none∧tyStr Try.prog 33=false∧tyBool Try.prog 33=false∧tyArr Try.prog 33=none∧tyArrA Try.prog 33=none∧tyInts Try.prog 33=none∧tyPlaces Try.prog 33=none∧zeroLs Try.prog 33=some (false,[D.raw (Value.slice none 0 0)])∧Program.concrete Try.prog 33=true:=by and_intros<;>kernel_rfl
@[go_sem] theorem f_t35:tySize Try.prog 35=some 2∧tyBytes Try.prog 35=some 32∧tyAg Try.prog 35=some true∧tyEl Try.prog 35=none∧tyInt Try.prog 35=none∧tyStr Try.prog 35=false∧tyBool Try.prog 35=false∧tyArr Try.prog 35=none∧tyArrA Try.prog 35=none∧tyInts Try.prog 35=none∧tyPlaces Try.prog 35=some [(0,1),(1,1)]∧zeroLs Try.prog 35=some (true,[D.raw (Value.slice none 0 0),D.raw (Value.int IntKind.i64 (0))])∧Program.concrete Try.prog 35=true:=by and_intros<;>kernel_rfl
@[go_sem] theorem f_t36:tySize Try.prog 36=some 1∧tyBytes Try.prog 36=some 8∧tyAg Try.prog 36=some false∧tyEl Try.prog 36=none∧tyInt Try.prog 36=some IntKind.i64∧tyStr Try.prog 36=false∧tyBool Try.prog 36=false∧tyArr Try.prog 36=none∧tyArrA Try.prog 36=none∧tyInts Try.prog 36=none∧tyPlaces Try.prog 36=none∧zeroLs Try.prog 36=some (false,[D.raw (Value.int IntKind.i64 (0))])∧Program.concrete Try.prog 36=true:=by and_intros<;>kernel_rfl
@[go_sem] theorem f_t39:tySize Try.prog 39=some 2∧tyBytes Try.prog 39=some 16∧tyAg Try.prog 39=some true∧tyEl Try.prog 39=none∧tyInt Try.prog 39=none∧tyStr Try.prog 39=false∧tyBool Try.prog 39=false∧tyArr Try.prog 39=none∧tyArrA Try.prog 39=none∧tyInts Try.prog 39=some 2∧tyPlaces Try.prog 39=some [(0,1),(1,1)]∧zeroLs Try.prog 39=some (true,[D.raw (Value.int IntKind.i64 (0)),D.raw (Value.int IntKind.i64 (0))])∧Program.concrete Try.prog 39=true:=by and_intros<;>kernel_rfl
@[go_sem] theorem f_t40:tySize Try.prog 40=some 2∧tyBytes Try.prog 40=some 16∧tyAg Try.prog 40=some true∧tyEl Try.prog 40=none∧tyInt Try.prog 40=none∧tyStr Try.prog 40=false∧tyBool Try.prog 40=false∧tyArr Try.prog 40=none∧tyArrA Try.prog 40=none∧tyInts Try.prog 40=some 2∧tyPlaces Try.prog 40=some [(0,1),(1,1)]∧zeroLs Try.prog 40=some (true,[D.raw (Value.int IntKind.i64 (0)),D.raw (Value.int IntKind.i64 (0))])∧Program.concrete Try.prog 40=true:=by and_intros<;>kernel_rfl
@[go_sem] theorem f_t45:tySize Try.prog 45=some 2∧tyBytes Try.prog 45=some 16∧tyAg Try.prog 45=some true∧tyEl Try.prog 45=none∧tyInt Try.prog 45=none∧tyStr Try.prog 45=false∧tyBool Try.prog 45=false∧tyArr Try.prog 45=none∧tyArrA Try.prog 45=none∧tyInts Try.prog 45=some 2∧tyPlaces Try.prog 45=some [(0,1),(1,1)]∧zeroLs Try.prog 45=some (true,[D.raw (Value.int IntKind.i64 (0)),D.raw (Value.int IntKind.i64 (0))])∧Program.concrete Try.prog 45=true:=by and_intros<;>kernel_rfl
@[go_sem] theorem f_t46:tySize Try.prog 46=some 1∧tyBytes Try.prog 46=some 24∧tyAg Try.prog 46=some false∧tyEl Try.prog 46=some 45∧tyInt Try.prog 46=none∧tyStr Try.prog 46=false∧tyBool Try.prog 46=false∧tyArr Try.prog 46=none∧tyArrA Try.prog 46=none∧tyInts Try.prog 46=none∧tyPlaces Try.prog 46=none∧zeroLs Try.prog 46=some (false,[D.raw (Value.slice none 0 0)])∧Program.concrete Try.prog 46=true:=by and_intros<;>kernel_rfl
@[go_sem] theorem f_t52:tySize Try.prog 52=some 2∧tyBytes Try.prog 52=some 16∧tyAg Try.prog 52=some true∧tyEl Try.prog 52=none∧tyInt Try.prog 52=none∧tyStr Try.prog 52=false∧tyBool Try.prog 52=false∧tyArr Try.prog 52=none∧tyArrA Try.prog 52=none∧tyInts Try.prog 52=some 2∧tyPlaces Try.prog 52=some [(0,1),(1,1)]∧zeroLs Try.prog 52=some (true,[D.raw (Value.int IntKind.i64 (0)),D.raw (Value.int IntKind.i64 (0))])∧Program.concrete Try.prog 52=true:=by and_intros<;>kernel_rfl
@[go_sem] theorem f_t54:tySize Try.prog 54=some 3∧tyBytes Try.prog 54=some 24∧tyAg Try.prog 54=some true∧tyEl Try.prog 54=none∧tyInt Try.prog 54=none∧tyStr Try.prog 54=false∧tyBool Try.prog 54=false∧tyArr Try.prog 54=none∧tyArrA Try.prog 54=none∧tyInts Try.prog 54=none∧tyPlaces Try.prog 54=some [(0,1),(1,2)]∧zeroLs Try.prog 54=some (true,[D.raw (Value.int IntKind.i64 (0)),D.raw (Value.int IntKind.i64 (0)),D.raw (Value.int IntKind.i64 (0))])∧Program.concrete Try.prog 54=true:=by and_intros<;>kernel_rfl
@[go_sem] theorem f_t56:tySize Try.prog 56=some 2∧tyBytes Try.prog 56=some 16∧tyAg Try.prog 56=some true∧tyEl Try.prog 56=none∧tyInt Try.prog 56=none∧tyStr Try.prog 56=false∧tyBool Try.prog 56=false∧tyArr Try.prog 56=none∧tyArrA Try.prog 56=none∧tyInts Try.prog 56=some 2∧tyPlaces Try.prog 56=some [(0,1),(1,1)]∧zeroLs Try.prog 56=some (true,[D.raw (Value.int IntKind.i64 (0)),D.raw (Value.int IntKind.i64 (0))])∧Program.concrete Try.prog 56=true:=by and_intros<;>kernel_rfl
@[go_sem] theorem f_t57:tySize Try.prog 57=some 1∧tyBytes Try.prog 57=some 8∧tyAg Try.prog 57=some false∧tyEl Try.prog 57=none∧tyInt Try.prog 57=none∧tyStr Try.prog 57=false∧tyBool Try.prog 57=false∧tyArr Try.prog 57=none∧tyArrA Try.prog 57=none∧tyInts Try.prog 57=none∧tyPlaces Try.prog 57=none∧zeroLs Try.prog 57=some (false,[D.raw (Value.pointer none)])∧Program.concrete Try.prog 57=true:=by and_intros<;>kernel_rfl
@[go_sem] theorem f_t69:tySize Try.prog 69=some 1∧tyBytes Try.prog 69=some 8∧tyAg Try.prog 69=some false∧tyEl Try.prog 69=none∧tyInt Try.prog 69=none∧tyStr Try.prog 69=false∧tyBool Try.prog 69=false∧tyArr Try.prog 69=none∧tyArrA Try.prog 69=none∧tyInts Try.prog 69=none∧tyPlaces Try.prog 69=none∧zeroLs Try.prog 69=some (false,[D.raw Value.nilFunc])∧Program.concrete Try.prog 69=true:=by and_intros<;>kernel_rfl
@[go_sem] theorem f_t71:tySize Try.prog 71=some 1∧tyBytes Try.prog 71=some 24∧tyAg Try.prog 71=some false∧tyEl Try.prog 71=some 3∧tyInt Try.prog 71=none∧tyStr Try.prog 71=false∧tyBool Try.prog 71=false∧tyArr Try.prog 71=none∧tyArrA Try.prog 71=none∧tyInts Try.prog 71=none∧tyPlaces Try.prog 71=none∧zeroLs Try.prog 71=some (false,[D.raw (Value.slice none 0 0)])∧Program.concrete Try.prog 71=true:=by and_intros<;>kernel_rfl
@[go_sem] theorem f_t72:tySize Try.prog 72=some 1∧tyBytes Try.prog 72=some 8∧tyAg Try.prog 72=some false∧tyEl Try.prog 72=none∧tyInt Try.prog 72=none∧tyStr Try.prog 72=false∧tyBool Try.prog 72=false∧tyArr Try.prog 72=none∧tyArrA Try.prog 72=none∧tyInts Try.prog 72=none∧tyPlaces Try.prog 72=none∧zeroLs Try.prog 72=some (false,[D.raw (Value.pointer none)])∧Program.concrete Try.prog 72=true:=by and_intros<;>kernel_rfl
@[go_sem] theorem f_t74:tySize Try.prog 74=some 1∧tyBytes Try.prog 74=some 8∧tyAg Try.prog 74=some false∧tyEl Try.prog 74=none∧tyInt Try.prog 74=none∧tyStr Try.prog 74=false∧tyBool Try.prog 74=false∧tyArr Try.prog 74=none∧tyArrA Try.prog 74=none∧tyInts Try.prog 74=none∧tyPlaces Try.prog 74=none∧zeroLs Try.prog 74=some (false,[D.raw (Value.map none)])∧Program.concrete Try.prog 74=true:=by and_intros<;>kernel_rfl
@[go_sem] theorem f_t76:tySize Try.prog 76=some 2∧tyBytes Try.prog 76=some 32∧tyAg Try.prog 76=some true∧tyEl Try.prog 76=none∧tyInt Try.prog 76=none∧tyStr Try.prog 76=false∧tyBool Try.prog 76=false∧tyArr Try.prog 76=none∧tyArrA Try.prog 76=none∧tyInts Try.prog 76=none∧tyPlaces Try.prog 76=some [(0,1),(1,1)]∧zeroLs Try.prog 76=some (true,[D.raw (Value.int IntKind.i64 (0)),D.raw (Value.slice none 0 0)])∧Program.concrete Try.prog 76=true:=by and_intros<;>kernel_rfl
@[go_sem] theorem f_t77:tySize Try.prog 77=some 2∧tyBytes Try.prog 77=some 16∧tyAg Try.prog 77=some true∧tyEl Try.prog 77=none∧tyInt Try.prog 77=none∧tyStr Try.prog 77=false∧tyBool Try.prog 77=false∧tyArr Try.prog 77=some (2,1)∧tyArrA Try.prog 77=some (2,1,false)∧tyInts Try.prog 77=none∧tyPlaces Try.prog 77=some [(0,1),(1,1)]∧zeroLs Try.prog 77=some (true,[D.raw (Value.int IntKind.i64 (0)),D.raw (Value.int IntKind.i64 (0))])∧Program.concrete Try.prog 77=true:=by and_intros<;>kernel_rfl
@[go_sem] theorem f_t78:tySize Try.prog 78=some 1∧tyBytes Try.prog 78=some 8∧tyAg Try.prog 78=some false∧tyEl Try.prog 78=none∧tyInt Try.prog 78=none∧tyStr Try.prog 78=false∧tyBool Try.prog 78=false∧tyArr Try.prog 78=none∧tyArrA Try.prog 78=none∧tyInts Try.prog 78=none∧tyPlaces Try.prog 78=none∧zeroLs Try.prog 78=some (false,[D.raw Value.nilFunc])∧Program.concrete Try.prog 78=true:=by and_intros<;>kernel_rfl
@[go_sem] theorem f_t79:tySize Try.prog 79=some 1∧tyBytes Try.prog 79=some 8∧tyAg Try.prog 79=some false∧tyEl Try.prog 79=none∧tyInt Try.prog 79=none∧tyStr Try.prog 79=false∧tyBool Try.prog 79=false∧tyArr Try.prog 79=none∧tyArrA Try.prog 79=none∧tyInts Try.prog 79=none∧tyPlaces Try.prog 79=none∧zeroLs Try.prog 79=some (false,[D.raw Value.nilFunc])∧Program.concrete Try.prog 79=true:=by and_intros<;>kernel_rfl
@[go_sem] theorem f_t80:tySize Try.prog 80=some 1∧tyBytes Try.prog 80=some 8∧tyAg Try.prog 80=some false∧tyEl Try.prog 80=none∧tyInt Try.prog 80=none∧tyStr Try.prog 80=false∧tyBool Try.prog 80=false∧tyArr Try.prog 80=none∧tyArrA Try.prog 80=none∧tyInts Try.prog 80=none∧tyPlaces Try.prog 80=none∧zeroLs Try.prog 80=some (false,[D.raw Value.nilFunc])∧Program.concrete Try.prog 80=true:=by and_intros<;>kernel_rfl
@[go_sem] theorem f_t82:tySize Try.prog 82=some 3∧tyBytes Try.prog 82=some 24∧tyAg Try.prog 82=some true∧tyEl Try.prog 82=none∧tyInt Try.prog 82=none∧tyStr Try.prog 82=false∧tyBool Try.prog 82=false∧tyArr Try.prog 82=none∧tyArrA Try.prog 82=none∧tyInts Try.prog 82=none∧tyPlaces Try.prog 82=some [(0,1),(1,1),(2,1)]∧zeroLs Try.prog 82=some (true,[D.raw Value.nilFunc,D.raw Value.nilFunc,D.raw Value.nilFunc])∧Program.concrete Try.prog 82=true:=by and_intros<;>kernel_rfl
@[go_sem] theorem f_t83:tySize Try.prog 83=some 6∧tyBytes Try.prog 83=some 48∧tyAg Try.prog 83=some true∧tyEl Try.prog 83=none∧tyInt Try.prog 83=none∧tyStr Try.prog 83=false∧tyBool Try.prog 83=false∧tyArr Try.prog 83=some (2,3)∧tyArrA Try.prog 83=some (2,3,true)∧tyInts Try.prog 83=none∧tyPlaces Try.prog 83=some [(0,3),(3,3)]∧zeroLs Try.prog 83=some (true,[D.raw Value.nilFunc,D.raw Value.nilFunc,D.raw Value.nilFunc,D.raw Value.nilFunc,D.raw Value.nilFunc,D.raw Value.nilFunc])∧Program.concrete Try.prog 83=true:=by and_intros<;>kernel_rfl
@[go_sem] theorem f_t85:tySize Try.prog 85=some 1∧tyBytes Try.prog 85=some 24∧tyAg Try.prog 85=some false∧tyEl Try.prog 85=some 40∧tyInt Try.prog 85=none∧tyStr Try.prog 85=false∧tyBool Try.prog 85=false∧tyArr Try.prog 85=none∧tyArrA Try.prog 85=none∧tyInts Try.prog 85=none∧tyPlaces Try.prog 85=none∧zeroLs Try.prog 85=some (false,[D.raw (Value.slice none 0 0)])∧Program.concrete Try.prog 85=true:=by and_intros<;>kernel_rfl
@[go_sem] theorem f_t88:tySize Try.prog 88=some 1∧tyBytes Try.prog 88=some 8∧tyAg Try.prog 88=some false∧tyEl Try.prog 88=none∧tyInt Try.prog 88=none∧tyStr Try.prog 88=false∧tyBool Try.prog 88=false∧tyArr Try.prog 88=none∧tyArrA Try.prog 88=none∧tyInts Try.prog 88=none∧tyPlaces Try.prog 88=none∧zeroLs Try.prog 88=some (false,[D.raw Value.nilFunc])∧Program.concrete Try.prog 88=true:=by and_intros<;>kernel_rfl
@[go_sem] theorem f_t90:tySize Try.prog 90=some 1∧tyBytes Try.prog 90=some 8∧tyAg Try.prog 90=some false∧tyEl Try.prog 90=none∧tyInt Try.prog 90=none∧tyStr Try.prog 90=false∧tyBool Try.prog 90=false∧tyArr Try.prog 90=none∧tyArrA Try.prog 90=none∧tyInts Try.prog 90=none∧tyPlaces Try.prog 90=none∧zeroLs Try.prog 90=some (false,[D.raw Value.nilFunc])∧Program.concrete Try.prog 90=true:=by and_intros<;>kernel_rfl
@[go_sem] theorem f_t91:tySize Try.prog 91=some 1∧tyBytes Try.prog 91=some 8∧tyAg Try.prog 91=some false∧tyEl Try.prog 91=none∧tyInt Try.prog 91=none∧tyStr Try.prog 91=false∧tyBool Try.prog 91=false∧tyArr Try.prog 91=none∧tyArrA Try.prog 91=none∧tyInts Try.prog 91=none∧tyPlaces Try.prog 91=none∧zeroLs Try.prog 91=some (false,[D.raw Value.nilFunc])∧Program.concrete Try.prog 91=true:=by and_intros<;>kernel_rfl
@[go_sem] theorem f_t95:tySize Try.prog 95=some 7∧tyBytes Try.prog 95=some 72∧tyAg Try.prog 95=some true∧tyEl Try.prog 95=none∧tyInt Try.prog 95=none∧tyStr Try.prog 95=false∧tyBool Try.prog 95=false∧tyArr Try.prog 95=none∧tyArrA Try.prog 95=none∧tyInts Try.prog 95=none∧tyPlaces Try.prog 95=some [(0,5),(5,1),(6,1)]∧zeroLs Try.prog 95=some (true,[D.raw (Value.int IntKind.i64 (0)),D.raw (Value.int IntKind.i64 (0)),D.raw (Value.bool false),D.raw (Value.int IntKind.i64 (0)),D.raw (Value.int IntKind.i64 (0)),D.raw (Value.slice none 0 0),D.raw (Value.map none)])∧Program.concrete Try.prog 95=true:=by and_intros<;>kernel_rfl
@[go_sem] theorem f_t96:tySize Try.prog 96=some 1∧tyBytes Try.prog 96=some 8∧tyAg Try.prog 96=some false∧tyEl Try.prog 96=none∧tyInt Try.prog 96=none∧tyStr Try.prog 96=false∧tyBool Try.prog 96=false∧tyArr Try.prog 96=none∧tyArrA Try.prog 96=none∧tyInts Try.prog 96=none∧tyPlaces Try.prog 96=none∧zeroLs Try.prog 96=some (false,[D.raw Value.nilFunc])∧Program.concrete Try.prog 96=true:=by and_intros<;>kernel_rfl
@[go_sem] theorem f_t99:tySize Try.prog 99=some 1∧tyBytes Try.prog 99=some 8∧tyAg Try.prog 99=some false∧tyEl Try.prog 99=none∧tyInt Try.prog 99=none∧tyStr Try.prog 99=false∧tyBool Try.prog 99=false∧tyArr Try.prog 99=none∧tyArrA Try.prog 99=none∧tyInts Try.prog 99=none∧tyPlaces Try.prog 99=none∧zeroLs Try.prog 99=some (false,[D.raw Value.nilFunc])∧Program.concrete Try.prog 99=true:=by and_intros<;>kernel_rfl
@[go_sem] theorem f_t110:tySize Try.prog 110=some 1∧tyBytes Try.prog 110=some 8∧tyAg Try.prog 110=some false∧tyEl Try.prog 110=none∧tyInt Try.prog 110=none∧tyStr Try.prog 110=false∧tyBool Try.prog 110=false∧tyArr Try.prog 110=none∧tyArrA Try.prog 110=none∧tyInts Try.prog 110=none∧tyPlaces Try.prog 110=none∧zeroLs Try.prog 110=some (false,[D.raw Value.nilFunc])∧Program.concrete Try.prog 110=true:=by and_intros<;>kernel_rfl
@[go_sem] theorem f_t112:tySize Try.prog 112=some 1∧tyBytes Try.prog 112=some 8∧tyAg Try.prog 112=some false∧tyEl Try.prog 112=none∧tyInt Try.prog 112=none∧tyStr Try.prog 112=false∧tyBool Try.prog 112=false∧tyArr Try.prog 112=none∧tyArrA Try.prog 112=none∧tyInts Try.prog 112=none∧tyPlaces Try.prog 112=none∧zeroLs Try.prog 112=some (false,[D.raw Value.nilFunc])∧Program.concrete Try.prog 112=true:=by and_intros<;>kernel_rfl
@[go_sem] theorem f_t120:tySize Try.prog 120=some 1∧tyBytes Try.prog 120=some 8∧tyAg Try.prog 120=some false∧tyEl Try.prog 120=none∧tyInt Try.prog 120=none∧tyStr Try.prog 120=false∧tyBool Try.prog 120=false∧tyArr Try.prog 120=none∧tyArrA Try.prog 120=none∧tyInts Try.prog 120=none∧tyPlaces Try.prog 120=none∧zeroLs Try.prog 120=some (false,[D.raw (Value.map none)])∧Program.concrete Try.prog 120=true:=by and_intros<;>kernel_rfl
@[go_sem] theorem f_t123:tySize Try.prog 123=some 1∧tyBytes Try.prog 123=some 8∧tyAg Try.prog 123=some false∧tyEl Try.prog 123=none∧tyInt Try.prog 123=none∧tyStr Try.prog 123=false∧tyBool Try.prog 123=false∧tyArr Try.prog 123=none∧tyArrA Try.prog 123=none∧tyInts Try.prog 123=none∧tyPlaces Try.prog 123=none∧zeroLs Try.prog 123=some (false,[D.raw Value.nilFunc])∧Program.concrete Try.prog 123=true:=by and_intros<;>kernel_rfl
@[go_sem] theorem f_t128:tySize Try.prog 128=some 1∧tyBytes Try.prog 128=some 8∧tyAg Try.prog 128=some false∧tyEl Try.prog 128=none∧tyInt Try.prog 128=some IntKind.u64∧tyStr Try.prog 128=false∧tyBool Try.prog 128=false∧tyArr Try.prog 128=none∧tyArrA Try.prog 128=none∧tyInts Try.prog 128=none∧tyPlaces Try.prog 128=none∧zeroLs Try.prog 128=some (false,[D.raw (Value.int IntKind.u64 (0))])∧Program.concrete Try.prog 128=true:=by and_intros<;>kernel_rfl
@[go_sem] theorem f_t131:tySize Try.prog 131=some 1∧tyBytes Try.prog 131=some 8∧tyAg Try.prog 131=some false∧tyEl Try.prog 131=none∧tyInt Try.prog 131=some IntKind.i64∧tyStr Try.prog 131=false∧tyBool Try.prog 131=false∧tyArr Try.prog 131=none∧tyArrA Try.prog 131=none∧tyInts Try.prog 131=none∧tyPlaces Try.prog 131=none∧zeroLs Try.prog 131=some (false,[D.raw (Value.int IntKind.i64 (0))])∧Program.concrete Try.prog 131=true:=by and_intros<;>kernel_rfl
@[go_sem] theorem f_t138:tySize Try.prog 138=some 1∧tyBytes Try.prog 138=some 4∧tyAg Try.prog 138=some false∧tyEl Try.prog 138=none∧tyInt Try.prog 138=some IntKind.u32∧tyStr Try.prog 138=false∧tyBool Try.prog 138=false∧tyArr Try.prog 138=none∧tyArrA Try.prog 138=none∧tyInts Try.prog 138=none∧tyPlaces Try.prog 138=none∧zeroLs Try.prog 138=some (false,[D.raw (Value.int IntKind.u32 (0))])∧Program.concrete Try.prog 138=true:=by and_intros<;>kernel_rfl
@[go_sem] theorem f_t140:tySize Try.prog 140=some 1∧tyBytes Try.prog 140=some 8∧tyAg Try.prog 140=some false∧tyEl Try.prog 140=none∧tyInt Try.prog 140=some IntKind.u64∧tyStr Try.prog 140=false∧tyBool Try.prog 140=false∧tyArr Try.prog 140=none∧tyArrA Try.prog 140=none∧tyInts Try.prog 140=none∧tyPlaces Try.prog 140=none∧zeroLs Try.prog 140=some (false,[D.raw (Value.int IntKind.u64 (0))])∧Program.concrete Try.prog 140=true:=by and_intros<;>kernel_rfl
@[go_sem] theorem f_x_tyFld:tyFld Try.prog 24 0=some (0,1)∧tyFld Try.prog 24 1=some (1,1)∧tyFld Try.prog 24 2=some (2,1)∧tyFld Try.prog 24 3=some (3,1)∧tyFld Try.prog 24 4=some (4,1)∧tyFld Try.prog 27 0=some (0,1)∧tyFld Try.prog 27 1=some (1,1)∧tyFld Try.prog 27 2=some (2,1)∧tyFld Try.prog 35 0=some (0,1)∧tyFld Try.prog 35 1=some (1,1)∧tyFld Try.prog 39 0=some (0,1)∧tyFld Try.prog 39 1=some (1,1)∧tyFld Try.prog 40 0=some (0,1)∧tyFld Try.prog 40 1=some (1,1)∧tyFld Try.prog 45 0=some (0,1)∧tyFld Try.prog 45 1=some (1,1)∧tyFld Try.prog 52 0=some (0,1)∧tyFld Try.prog 52 1=some (1,1)∧tyFld Try.prog 54 0=some (0,1)∧tyFld Try.prog 54 1=some (1,2)∧tyFld Try.prog 56 0=some (0,1)∧tyFld Try.prog 56 1=some (1,1)∧tyFld Try.prog 76 0=some (0,1)∧tyFld Try.prog 76 1=some (1,1)∧tyFld Try.prog 82 0=some (0,1)∧tyFld Try.prog 82 1=some (1,1)∧tyFld Try.prog 82 2=some (2,1)∧tyFld Try.prog 95 0=some (0,5)∧tyFld Try.prog 95 1=some (5,1)∧tyFld Try.prog 95 2=some (6,1):=by and_intros<;>kernel_rfl
@[go_sem] theorem f_x_canCall:canCall Try.prog 1=false∧canCall Try.prog 4=true∧canCall Try.prog 5=true∧canCall Try.prog 6=true∧canCall Try.prog 7=true∧canCall Try.prog 8=true∧canCall Try.prog 9=true∧canCall Try.prog 10=true∧canCall Try.prog 11=true∧canCall Try.prog 12=true∧canCall Try.prog 13=true∧canCall Try.prog 14=true∧canCall Try.prog 15=true∧canCall Try.prog 16=true∧canCall Try.prog 17=true∧canCall Try.prog 18=true∧canCall Try.prog 19=true∧canCall Try.prog 20=true∧canCall Try.prog 21=true∧canCall Try.prog 22=true∧canCall Try.prog 23=true∧canCall Try.prog 24=true∧canCall Try.prog 25=true∧canCall Try.prog 26=true∧canCall Try.prog 27=true∧canCall Try.prog 28=true∧canCall Try.prog 29=true∧canCall Try.prog 30=true∧canCall Try.prog 31=true∧canCall Try.prog 32=true∧canCall Try.prog 33=true∧canCall Try.prog 34=true∧canCall Try.prog 35=true∧canCall Try.prog 36=true∧canCall Try.prog 37=true∧canCall Try.prog 38=true∧canCall Try.prog 39=true∧canCall Try.prog 40=true∧canCall Try.prog 41=true∧canCall Try.prog 42=true∧canCall Try.prog 43=true∧canCall Try.prog 44=true∧canCall Try.prog 45=true∧canCall Try.prog 46=true∧canCall Try.prog 47=true∧canCall Try.prog 48=true∧canCall Try.prog 49=true∧canCall Try.prog 50=true∧canCall Try.prog 51=true∧canCall Try.prog 52=true∧canCall Try.prog 53=true∧canCall Try.prog 54=true∧canCall Try.prog 55=true∧canCall Try.prog 56=true∧canCall Try.prog 57=true∧canCall Try.prog 58=true∧canCall Try.prog 59=true∧canCall Try.prog 60=true∧canCall Try.prog 61=true∧canCall Try.prog 62=true∧canCall Try.prog 63=true∧canCall Try.prog 64=true∧canCall Try.prog 65=true∧canCall Try.prog 66=true∧canCall Try.prog 67=true∧canCall Try.prog 68=true∧canCall Try.prog 69=true∧canCall Try.prog 70=true∧canCall Try.prog 71=true∧canCall Try.prog 72=true∧canCall Try.prog 73=true∧canCall Try.prog 74=true∧canCall Try.prog 75=true∧canCall Try.prog 76=true∧canCall Try.prog 77=true∧canCall Try.prog 78=true∧canCall Try.prog 79=true∧canCall Try.prog 80=true∧canCall Try.prog 81=true∧canCall Try.prog 82=true∧canCall Try.prog 83=true∧canCall Try.prog 84=true∧canCall Try.prog 85=true∧canCall Try.prog 86=true∧canCall Try.prog 87=true∧canCall Try.prog 88=true∧canCall Try.prog 89=true∧canCall Try.prog 90=true∧canCall Try.prog 91=true∧canCall Try.prog 92=true∧canCall Try.prog 93=true∧canCall Try.prog 94=true∧canCall Try.prog 95=true∧canCall Try.prog 96=true∧canCall Try.prog 97=true∧canCall Try.prog 98=true∧canCall Try.prog 99=true∧canCall Try.prog 100=true:=by and_intros<;>kernel_rfl
@[go_sem] theorem f_x_tyMap:tyMap Try.prog 74=some (3,3)∧tyMap Try.prog 120=some (3,4):=by and_intros<;>kernel_rfl
@[go_sem] theorem f_x_tyKey:tyKey Try.prog 3=some 0:=by kernel_rfl
end Go.Mw
namespace Go.Mw
section
variable {α:Type} (lt:α→α→Bool)
def scanE (x:α)(l:List α):Nat→Nat
 |0=>0
 |n+1=>match l[n]? with
  |some y=>if lt x y=true then scanE x l n else n+1
  |none=>n+1
def insE (x:α)(l:List α):List α:=l.take (scanE lt x l l.length)++[x]++l.drop (scanE lt x l l.length)
def isortE (l:List α):List α:=l.foldl (fun acc x=>insE lt x acc) []
def Lt (p t r:List α)(x:α)(c:Nat):List α:=p++(t.take c++[x]++t.drop c)++r
variable {lt}
theorem scanE_le (x:α)(l:List α):∀n,scanE lt x l n≤n
 |0=>Nat.le_refl 0
 |n+1=>by
  unfold scanE
  split
  ·split
   ·exact Nat.le_succ_of_le (scanE_le x l n)
   ·exact Nat.le_refl _
  ·exact Nat.le_refl _
theorem scanE_yes {x y:α}{l:List α}{n:Nat}(h:l[n]? = some y)(hl:lt x y=true):scanE lt x l (n+1)=scanE lt x l n:=by
 rw [scanE,h];simp [hl]
theorem scanE_no {x y:α}{l:List α}{n:Nat}(h:l[n]? = some y)(hl:lt x y=false):scanE lt x l (n+1)=n+1:=by
 rw [scanE,h];simp [hl]
theorem len_insE (x:α)(l:List α):(insE lt x l).length=l.length+1:=by
 have:=scanE_le (lt:=lt) x l l.length
 unfold insE;simp;omega
theorem isortE_snoc (l:List α)(x:α):isortE lt (l++[x])=insE lt x (isortE lt l):=by
 unfold isortE;simp [List.foldl_append]
theorem len_isortE (l:List α):(isortE lt l).length=l.length:=by
 suffices h:∀(n:Nat) (l:List α),l.length=n→(isortE lt l).length=n from h _ l rfl
 intro n
 induction n with
 |zero=>intro l h;rw [List.eq_nil_of_length_eq_zero h];rfl
 |succ n ih=>
  intro l h
  obtain ⟨m,x,rfl⟩:∃m x,l=m++[x]:=by
   refine ⟨l.dropLast,l.getLast (by intro e;simp [e] at h),?_⟩
   exact (List.dropLast_concat_getLast _).symm
  rw [isortE_snoc,len_insE,ih m (by simpa using h)]
theorem isortE_one (l:List α):isortE lt (l.take 1)++l.drop 1=l:=by
 cases l with
 |nil=>rfl
 |cons x l=>simp [isortE,insE,scanE]
theorem Lt_len {p t r:List α}{x:α}{c:Nat}(h:c≤t.length):(Lt p t r x c).length=p.length+(t.length+1)+r.length:=by
 unfold Lt;simp;omega
theorem Lt_x {p t r:List α}{x:α}{c:Nat}(h:c≤t.length):(Lt p t r x c)[p.length+c]? = some x:=by
 unfold Lt
 have h1:(t.take c).length=c:=by simp;omega
 rw [List.append_assoc,List.append_assoc,List.append_assoc,List.getElem?_append_right (by omega),Nat.add_sub_cancel_left,List.getElem?_append_right (by omega),h1,Nat.sub_self]
 simp
theorem Lt_y {p t r:List α}{x y:α}{c:Nat}(h:t[c]? = some y):(Lt p t r x (c+1))[p.length+c]? = some y:=by
 have hc:c<t.length:=(List.getElem?_eq_some_iff.1 h).1
 unfold Lt
 rw [List.append_assoc,List.append_assoc,List.append_assoc,List.getElem?_append_right (by omega),Nat.add_sub_cancel_left,List.getElem?_append_left V214,List.getElem?_take,if_pos (by omega),h]
theorem Lt_set {p t r:List α}{x y:α}{c:Nat}(h:t[c]? = some y):((Lt p t r x (c+1)).set (p.length+(c+1)) y).set (p.length+c) x=Lt p t r x c:=by
 have hc:c<t.length:=(List.getElem?_eq_some_iff.1 h).1
 have hd:t.drop c=y::t.drop (c+1):=by
  obtain ⟨hk,rfl⟩:=List.getElem?_eq_some_iff.1 h
  exact (List.getElem_cons_drop hk).symm
 have ht:t.take (c+1)=t.take c++[y]:=by rw [List.take_succ,h];rfl
 unfold Lt
 rw [hd,ht]
 have h1:(t.take c).length=c:=by simp;omega
 simp only [List.append_assoc]
 rw [List.set_append_right _ _ (by omega),List.set_append_right _ _ (by omega)]
 simp only [Nat.add_sub_cancel_left]
 rw [List.set_append_right _ _ (by omega),h1,List.set_append_right _ _ (by omega),h1]
 simp
theorem Lt_start {p t r:List α}{x:α}:Lt p t r x t.length=p++(t++[x])++r:=by unfold Lt;simp
theorem Lt_ins {p t r:List α}{x:α}:Lt p t r x (scanE lt x t t.length)=p++insE lt x t++r:=rfl
end
end Go.Mw
namespace Go.Mw
section mg
variable {α:Type} (lt:α→α→Bool)
def mg:List α→List α→List α
 |[],r=>r
 |a::l,[]=>a::l
 |a::l,b::r=>if lt b a=true then b::mg (a::l) r else a::mg l (b::r)
termination_by l r=>l.length+r.length
variable {lt}
structure Weak (lt:α→α→Bool):Prop where
 irr:∀x,lt x x=false
 tr:∀x y z,lt x y=true→lt y z=true→lt x z=true
 nt:∀x y z,lt x y=false→lt y z=false→lt x z=false
theorem ins_at {x:α}:∀ {l2 l1:List α},(∀y∈l1,lt x y=false)→(∀y∈l2,lt x y=true)→insE lt x (l1++l2)=l1++[x]++l2:=by
 intro l2 l1 h1 h2
 have key:∀n,n≤l2.length→scanE lt x (l1++l2) (l1.length+n)=l1.length:=by
  intro n
  induction n with
  |zero=>
   intro _
   rw [Nat.add_zero]
   cases hl:l1.length with
   |zero=>rfl
   |succ m=>
    have hm:m<l1.length:=by omega
    have hg:(l1++l2)[m]? = some l1[m]:=by rw [List.getElem?_append_left hm];exact List.getElem?_eq_getElem hm
    exact scanE_no hg (h1 _ (List.getElem_mem hm))
  |succ n ih=>
   intro hn
   have hg:(l1++l2)[l1.length+n]? = some l2[n]:=by rw [List.getElem?_append_right (by omega),Nat.add_sub_cancel_left];exact List.getElem?_eq_getElem (by omega)
   rw [←Nat.add_assoc,scanE_yes hg (h2 _ (List.getElem_mem (by omega)))]
   exact ih (by omega)
 unfold insE
 rw [List.length_append,key _ (Nat.le_refl _),List.take_left,List.drop_left]
theorem snoc_ind {p:List α→Prop}(h0:p [])(h1:∀l x,p l→p (l++[x])):∀l,p l:=by
 intro l
 have:∀n (l:List α),l.length=n→p l:=by
  intro n
  induction n with
  |zero=>intro l hl;rw [List.eq_nil_of_length_eq_zero hl];exact h0
  |succ n ih=>
   intro l hl
   have hne:l≠[]:=fun e=>by subst e;simp at hl
   rw [←List.dropLast_concat_getLast hne]
   exact h1 _ _ (ih _ V214)
 exact this _ l rfl
end mg
end Go.Mw
namespace Go.Mw
open Go.Proofs Go.Li
theorem follows_mixed:Try.prog.follows .mixedOrders=true:=by kernel_rfl
abbrev D.i (n:Int):D:=.raw (.int .i64 n)
abbrev D.bo (b:Bool):D:=.raw (.bool b)
@[go_sem] def encInt (n:Int):List D:=[.i n]
abbrev intsD (l:List Int):D:=.sl 1 (l.map encInt)
@[go_sem] def encWh (w:Whl):List D:=[.i w.teeth,.i w.count]
@[go_sem] def encSp (s:Go.Li.Span):List D:=[.i s.lo,.i s.hi]
@[go_sem] def encPt (p:Pt):List D:=[.i p.fl,.i p.e.lo,.i p.e.hi]
@[go_sem] def encPr (p:Pr):List D:=[.i p.a,.i p.b]
@[go_sem] def encDw (p:Int × Int):List D:=[.i p.1,.i p.2]
abbrev whsD (l:List Whl):D:=.sl 2 (l.map encWh)
abbrev sksD (l:List Go.Li.Span):D:=.sl 2 (l.map encSp)
abbrev ptsD (l:List Pt):D:=.sl 3 (l.map encPt)
abbrev prsD (l:List Pr):D:=.sl 2 (l.map encPr)
abbrev dwsD (l:List (Int × Int)):D:=.sl 2 (l.map encDw)
@[go_sem] def encGr (g:Gr):List D:=[.i g.turns,.i g.rounds,.bo g.same,.i g.pairs,.i g.room]
@[go_sem] def encCv (c:Cv):List D:=[.i c.start,.i c.steep,ptsD c.ps]
@[go_sem] def encTr (t:Tr):List D:=[prsD t.ps,.i t.idler]
@[go_sem] def encCh (st:Int)(ps:List Pt):List D:=[.i st,ptsD ps]
abbrev grV (g:Gr):AV:=.val true ((encGr g).map .d)
abbrev cvV (c:Cv):AV:=.val true ((encCv c).map .d)
abbrev trV (t:Tr):AV:=.val true ((encTr t).map .d)
abbrev spV (s:Go.Li.Span):AV:=.val true [.d (.i s.lo),.d (.i s.hi)]
abbrev prV (p:Pr):AV:=.val true [.d (.i p.a),.d (.i p.b)]
abbrev ptV (p:Pt):AV:=.val true [.d (.i p.fl),.d (.i p.e.lo),.d (.i p.e.hi)]
abbrev whV (w:Whl):AV:=.val true [.d (.i w.teeth),.d (.i w.count)]
abbrev dwV (p:Int × Int):AV:=.val true [.d (.i p.1),.d (.i p.2)]
abbrev chP (st:Int)(ps:List Pt):D:=.pt (encCh st ps)
abbrev tkP (g:Gr)(ks:List Int)(v:Value):D:=.pt [.i g.turns,.i g.rounds,.bo g.same,.i g.pairs,.i g.room,intsD ks,.raw v]
abbrev tupI (l:List Int):AV:=.tup (l.map fun n=>(false,[.d (.i n)]))
theorem pick_max (a b:Int):pick2 false a b=max a b:=by simp only [pick2,cond_false];split<;>omega
theorem pick_min (a b:Int):pick2 true a b=min a b:=by simp only [pick2,cond_true];split<;>omega
def inL (n l h:Int):Bool:=decide (l≤n)&&decide (n≤h)
end Go.Mw
namespace Go.Mw
open Go.Proofs
open Go.Li
theorem c_meterworksref01_in (n l h:Int):Contract Try.prog 12 [.int n,.int l,.int h] (.bool (inL n l h)) []:=by
 refine con_of follows_mixed Try.func12 rfl (by simp only [List.length_cons,List.length_nil,Try.ntmps12];omega) V215 rfl ?_
 refine Exec.reg ?_
 refine Run.o1 V199 ?_
 refine Run.nil ?_
 refine Exec.reg ?_
 iterate 4 (refine Run.o1 V199 ?_)
 iterate 3 (refine Run.gop V208 V199 V208 ?_)
 iterate 2 (refine Run.o1 V199 ?_)
 refine Run.nil ?_
 exact Ends.fin [] (rs:=[.tmp 6]) rfl V199 V159
theorem c_meterworksref03_in (n l h:Int):Contract Try.prog 13 [.int n,.int l,.int h] (.bool (inL n l h)) []:=by
 refine con_of follows_mixed Try.func13 rfl (by simp only [List.length_cons,List.length_nil,Try.ntmps13];omega) V215 rfl ?_
 refine Exec.reg ?_
 refine Run.o1 V199 ?_
 refine Run.nil ?_
 refine Exec.reg ?_
 iterate 4 (refine Run.o1 V199 ?_)
 iterate 3 (refine Run.gop V208 V199 V208 ?_)
 iterate 2 (refine Run.o1 V199 ?_)
 refine Run.nil ?_
 exact Ends.fin [] (rs:=[.tmp 6]) rfl V199 V159
theorem c_gear_within (n l h:Int):Contract Try.prog 32 [.int n,.int l,.int h] (.bool (inL n l h)) []:=by
 refine con_of follows_mixed Try.func32 rfl (by simp only [List.length_cons,List.length_nil,Try.ntmps32];omega) V215 rfl ?_
 refine Exec.reg ?_
 refine Run.o1 V199 ?_
 refine Run.nil ?_
 refine Exec.reg ?_
 iterate 4 (refine Run.o1 V199 ?_)
 iterate 3 (refine Run.gop V208 V199 V208 ?_)
 iterate 2 (refine Run.o1 V199 ?_)
 refine Run.nil ?_
 exact Ends.fin [] (rs:=[.tmp 6]) rfl V199 V159
theorem c_curve_within (n l h:Int):Contract Try.prog 22 [.int n,.int l,.int h] (.bool (inL n l h)) []:=by
 refine con_of follows_mixed Try.func22 rfl (by simp only [List.length_cons,List.length_nil,Try.ntmps22];omega) V215 rfl ?_
 refine Exec.reg ?_
 refine Run.o1 V199 ?_
 refine Run.nil ?_
 refine Exec.reg ?_
 iterate 4 (refine Run.o1 V199 ?_)
 iterate 3 (refine Run.gop V208 V199 V208 ?_)
 iterate 2 (refine Run.o1 V199 ?_)
 refine Run.nil ?_
 exact Ends.fin [] (rs:=[.tmp 6]) rfl V199 V159
theorem c_gear_isTeeth (n:Int):Contract Try.prog 31 [.int n] (.bool (inL n 6 100)) []:=by
 refine con_of follows_mixed Try.func31 rfl (by simp only [List.length_cons,List.length_nil,Try.ntmps31];omega) V215 rfl ?_
 refine Exec.reg ?_
 refine Run.o ?_
 refine Run.nil ?_
 refine Exec.reg ?_
 refine Run.o ?_
 refine Run.c1 (c_gear_within _ _ _) V208 V208 ?_
 refine Run.o ?_
 refine Run.nil ?_
 exact Ends.fin [] (rs:=[.tmp 2]) rfl V208 V171
theorem c_curve_isFlow (n:Int):Contract Try.prog 19 [.int n] (.bool (inL n 0 100000)) []:=by
 refine con_of follows_mixed Try.func19 rfl (by simp only [List.length_cons,List.length_nil,Try.ntmps19];omega) V215 rfl ?_
 refine Exec.reg ?_
 refine Run.o ?_
 refine Run.nil ?_
 refine Exec.reg ?_
 refine Run.o ?_
 refine Run.c1 (c_curve_within _ _ _) V208 V208 ?_
 refine Run.o ?_
 refine Run.nil ?_
 exact Ends.fin [] (rs:=[.tmp 2]) rfl V208 V171
theorem gearB_eq (g:Gr):gearB g=(inL g.turns 1 1000&&inL g.rounds 1 1000&&inL g.pairs 0 3&&inL g.room 0 200):=by simp only [gearB,inL,Bool.and_assoc]
theorem c_meterworksref01_Gearing (g:Gr):Contract Try.prog 5 [grV g] (.bool (gearB g)) []:=by
 rw [gearB_eq]
 refine con_of follows_mixed Try.func5 rfl (by simp only [List.length_cons,List.length_nil,Try.ntmps5];omega) V215 rfl ?_
 refine Exec.reg ?_
 iterate 2 (refine Run.o ?_)
 refine Run.nil ?_
 refine Exec.reg ?_
 iterate 2 (refine Run.o ?_)
 refine Run.c1 (c_meterworksref01_in _ _ _) V208 V208 ?_
 refine Run.o ?_
 iterate 2 (refine Run.gop V208 V208 V208 ?_)
 refine Run.gcal V208 (c_meterworksref01_in _ _ _) V210 V208 V16 V208 ?_
 iterate 2 (refine Run.o ?_)
 iterate 2 (refine Run.gop V208 V208 V208 ?_)
 refine Run.gcal V208 (c_meterworksref01_in _ _ _) V210 V208 V16 V208 ?_
 iterate 2 (refine Run.o ?_)
 iterate 2 (refine Run.gop V208 V208 V208 ?_)
 refine Run.gcal V208 (c_meterworksref01_in _ _ _) V210 V208 V16 V208 ?_
 iterate 2 (refine Run.o ?_)
 refine Run.nil ?_
 exact Ends.fin [] (rs:=[.tmp 2]) rfl V208 V171
theorem c_gear_isGearing (g:Gr):Contract Try.prog 36 [grV g] (.bool (gearB g)) []:=by
 rw [gearB_eq]
 refine con_of follows_mixed Try.func36 rfl (by simp only [List.length_cons,List.length_nil,Try.ntmps36];omega) V215 rfl ?_
 refine Exec.reg ?_
 iterate 2 (refine Run.o ?_)
 refine Run.nil ?_
 refine Exec.reg ?_
 iterate 2 (refine Run.o ?_)
 refine Run.c1 (c_gear_within _ _ _) V208 V208 ?_
 refine Run.o ?_
 iterate 2 (refine Run.gop V208 V208 V208 ?_)
 refine Run.gcal V208 (c_gear_within _ _ _) V210 V208 V16 V208 ?_
 iterate 2 (refine Run.o ?_)
 iterate 2 (refine Run.gop V208 V208 V208 ?_)
 refine Run.gcal V208 (c_gear_within _ _ _) V210 V208 V16 V208 ?_
 iterate 2 (refine Run.o ?_)
 iterate 2 (refine Run.gop V208 V208 V208 ?_)
 refine Run.gcal V208 (c_gear_within _ _ _) V210 V208 V16 V208 ?_
 iterate 2 (refine Run.o ?_)
 refine Run.nil ?_
 exact Ends.fin [] (rs:=[.tmp 2]) rfl V208 V171
def whAt (l:List Whl)(i:Nat):Bool:=inL (l.getD i ⟨0,0⟩).teeth 6 100&&inL (l.getD i ⟨0,0⟩).count 0 4&&(decide (i=0) || decide ((l.getD i ⟨0,0⟩).teeth>(l.getD (i-1) ⟨0,0⟩).teeth))
theorem stockT_at:∀(l:List Whl) (k:Int),stockT k l=true↔(∀i,i<l.length→inL (l.getD i ⟨0,0⟩).teeth 6 100=true∧inL (l.getD i ⟨0,0⟩).count 0 4=true∧(l.getD i ⟨0,0⟩).teeth>(if i=0 then k else (l.getD (i-1) ⟨0,0⟩).teeth))
 |[],k=>by simp [stockT]
 |w::r,k=>by
  simp only [stockT,Bool.and_eq_true,decide_eq_true_eq,stockT_at r w.teeth]
  constructor
  ·rintro ⟨h1,h2⟩ i hi
   cases i with
   |zero=>simp [inL];omega
   |succ i=>
    have:=h2 i (by simpa using hi)
    cases i with
    |zero=>simpa using this
    |succ i=>simpa using this
  ·intro h
   refine ⟨?_,fun i hi=>?_⟩
   ·have:=h 0 (by simp)
    simp [inL] at this
    omega
   ·have:=h (i+1) (by simpa using hi)
    cases i with
    |zero=>simpa using this
    |succ i=>simpa using this
theorem stock_at (l:List Whl):stockT 0 l=true↔∀i,i<l.length→whAt l i=true:=by
 rw [stockT_at]
 constructor
 ·intro h i hi
  obtain ⟨h1,h2,h3⟩:=h i hi
  unfold whAt
  rw [h1,h2]
  by_cases h0:i=0
  ·simp [h0]
  ·rw [if_neg h0] at h3
   simp only [Bool.and_self,Bool.true_and,Bool.or_eq_true,decide_eq_true_eq]
   exact .inr h3
 ·intro h i hi
  have:=h i hi
  unfold whAt at this
  simp only [Bool.and_eq_true,Bool.or_eq_true,decide_eq_true_eq] at this
  refine ⟨this.1.1,this.1.2,?_⟩
  by_cases h0:i=0
  ·rw [if_pos h0]
   have:=this.1.1
   unfold inL at this
   simp only [Bool.and_eq_true,decide_eq_true_eq] at this
   omega
  ·rw [if_neg h0]
   exact this.2.resolve_left h0
theorem getD_of {α:Type}{l:List α}{i:Nat}{x d:α}(h:l[i]? = some x):l.getD i d=x:=by simp [List.getD,h]
theorem stockB_no {l:List Whl}{k:Nat}(hk:k<l.length)(h:whAt l k=false):stockB l=false:=by
 unfold stockB
 cases hs:stockT 0 l with
 |false=>simp
 |true=>rw [(stock_at l).1 hs k hk] at h;cases h
theorem stockB_yes {l:List Whl}(h:∀i,i<l.length→whAt l i=true):stockB l=decide ((l.length:Int)≤8):=by
 unfold stockB
 rw [(stock_at l).2 h,Bool.and_true,decide_eq_decide]
 omega
theorem c_meterworksref01_Stock (l:List Whl)(hl:l.length≤1000):Contract Try.prog 4 [.leaf (.d (whsD l))] (.bool (stockB l)) []:=by
 refine con_of follows_mixed Try.func4 rfl (by simp only [List.length_cons,List.length_nil,Try.ntmps4];omega) V215 rfl ?_
 refine Exec.reg ?_
 refine Run.o ?_
 refine Run.nil ?_
 refine Exec.assocS ?_
 refine Exec.reg ?_
 refine Run.o ?_
 refine Run.nil ?_
 refine Exec.blk ?_
 refine Exec.forA [0,3] [] (l.length) (fun k=>[.slot 3 (.int k)]) (fun k=>∀i,i<k→whAt l i=true) (fun k=>by simp only [go_sem]<;>rfl) V180 ?_ (fun k hk hX=>?_)
 ·exact fun i hi=>absurd hi (by omega)
 ·skip
  refine Exec.assocS ?_
  refine Exec.reg ?_
  iterate 4 (refine Run.o ?_)
  refine Run.nil ?_
  refine Exec.cndS V208 (fun hb7=>?_) (fun hb7=>?_)
  ·skip
   have hlt:=lt_of_dec hb7
   obtain ⟨s,hs⟩:=elem_of hb7
   refine Exec.skipS ?_
   refine Exec.blk ?_
   by_cases hk0:k=0
   ·skip
    subst hk0
    refine Exec.opk 36 ?_
    iterate 2 (refine OpenK.o1 V105 ?_)
    refine OpenK.o1 V24 ?_
    iterate 2 (refine OpenK.o1 V105 ?_)
    refine OpenK.cal (c_meterworksref01_in _ _ _) V210 V105 V16 (fr0) V105 V208 V208 ?_
    iterate 2 (refine OpenK.o1 V105 ?_)
    iterate 2 (refine OpenK.gop V208 V105 V208 ?_)
    refine OpenK.gop V208 V24 V208 ?_
    iterate 2 (refine OpenK.gop V208 V105 V208 ?_)
    refine OpenK.gcal V208 (c_meterworksref01_in _ _ _) V210 V105 V16 V105 V208 ?_
    refine OpenK.gop V208 V105 V208 ?_
    iterate 2 (refine OpenK.o1 V105 ?_)
    iterate 3 (refine OpenK.gop V208 V105 V208 ?_)
    iterate 12 (refine OpenK.s ?_)
    refine OpenK.gop V208 V105 V208 ?_
    refine OpenK.o1 V105 ?_
    refine OpenK.nil (OpenE.finT V215 V215 V215 ?_)
    refine Exec.cnd V105 (fun hb43=>?_) (fun hb43=>?_)
    ·skip
     have hr:stockB l=false:=stockB_no hlt (by unfold whAt;rw [getD_of hs];simp only [Bool.or_eq_true,Bool.not_eq_true'] at hb43;rcases hb43 with h|h<;>simp [h])
     refine Exec.reg ?_
     refine Run.o1 V202 ?_
     refine Run.nil ?_
     refine BlkK.ret ?_
     refine ForK.ret ?_
     refine BlkK.ret ?_
     exact Ends.fin [] (rs:=[.tmp 2]) rfl V202 V161
    ·skip
     have hXn:∀i,i<0+1→whAt l i=true:=fun i hi=>by
      have:i=0:=by omega
      subst this
      unfold whAt;rw [getD_of hs];revert hb43;cases inL s.teeth 6 100<;>cases inL s.count 0 4<;>simp
     refine BlkK.nrm ?_
     refine Exec.reg1 ?_
     refine Run.o1 V105 ?_
     refine Run.o1 V36 ?_
     refine Run.o1 V105 ?_
     refine Run.nil ?_
     refine ForK.nxt ?_ ?_ ?_
     ·omega
     ·exact Ghost.kp [0,3] [] V89
     ·exact hXn
   ·skip
    obtain ⟨p,hp⟩:∃p,l[k-1]? = some p:=⟨_,List.getElem?_eq_getElem (by omega)⟩
    have hk1:decide ((k:Int)>0)=true:=by simp;omega
    have t1:((k:Int)-1).toNat=k-1:=by omega
    refine Exec.opk 36 ?_
    iterate 2 (refine OpenK.o1 V150 ?_)
    refine OpenK.o1 V72 ?_
    iterate 2 (refine OpenK.o1 V150 ?_)
    refine OpenK.cal (c_meterworksref01_in _ _ _) V210 V150 V16 (fr0) V150 V208 V208 ?_
    iterate 2 (refine OpenK.o1 V150 ?_)
    iterate 2 (refine OpenK.gop V208 V150 V208 ?_)
    refine OpenK.gop V208 V72 V208 ?_
    iterate 2 (refine OpenK.gop V208 V150 V208 ?_)
    refine OpenK.gcal V208 (c_meterworksref01_in _ _ _) V210 V150 V16 V150 V208 ?_
    refine OpenK.gop V208 V150 V208 ?_
    iterate 2 (refine OpenK.o1 V150 ?_)
    iterate 5 (refine OpenK.gop V208 V150 V208 ?_)
    refine OpenK.gop V208 V72 V208 ?_
    iterate 4 (refine OpenK.gop V208 V150 V208 ?_)
    refine OpenK.gop V208 V63 V208 ?_
    refine OpenK.gop V208 V72 V208 ?_
    iterate 4 (refine OpenK.gop V208 V150 V208 ?_)
    refine OpenK.o1 V150 ?_
    refine OpenK.nil (OpenE.finT V215 V215 V215 ?_)
    refine Exec.cnd V150 (fun hb43=>?_) (fun hb43=>?_)
    ·skip
     have hr:stockB l=false:=stockB_no hlt (by unfold whAt;rw [getD_of hs,getD_of hp];revert hb43;cases inL s.teeth 6 100<;>cases inL s.count 0 4<;>simp<;>omega)
     refine Exec.reg ?_
     refine Run.o1 V202 ?_
     refine Run.nil ?_
     refine BlkK.ret ?_
     refine ForK.ret ?_
     refine BlkK.ret ?_
     exact Ends.fin [] (rs:=[.tmp 2]) rfl V202 V161
    ·skip
     have hXn:∀i,i<k+1→whAt l i=true:=fun i hi=>by
      by_cases hik:i<k
      ·exact hX i hik
      have:i=k:=by omega
      subst this
      unfold whAt;rw [getD_of hs,getD_of hp];revert hb43;cases inL s.teeth 6 100<;>cases inL s.count 0 4<;>simp<;>exact fun h=>.inr h
     refine BlkK.nrm ?_
     refine Exec.reg1 ?_
     refine Run.o1 V150 ?_
     refine Run.o1 V63 ?_
     refine Run.o1 V150 ?_
     refine Run.nil ?_
     refine ForK.nxt ?_ ?_ ?_
     ·omega
     ·exact Ghost.kp [0,3] [] (by simp only [go_sem,hs,hp,hk1,t1,Bool.and_true]<;>first|exact eqz|rfl)
     ·exact hXn
  ·skip
   have hr:=stockB_yes (l:=l) (fun i hi=>hX i (by have:=ge_of_dec hb7;omega))
   refine Exec.exitS ?_
   refine ForK.ext ?_
   refine BlkK.hit ?_
   refine Exec.reg ?_
   iterate 4 (refine Run.o1 V202 ?_)
   refine Run.nil ?_
   exact Ends.fin [] (rs:=[.tmp 2]) rfl V202 V161
def ptOK (c:Cv)(q:Option Pt)(p:Pt):Bool:= !(!inL p.fl c.start 100000 || (match q with|none=>false|some q=>decide (p.fl≤q.fl)) || decide (p.e.lo < -1000) || decide (p.e.lo>p.e.hi) || decide (p.e.hi>1000))
def ptAt (c:Cv)(i:Nat):Bool:=ptOK c (if i=0 then none else c.ps[i-1]?) (c.ps.getD i ⟨0,⟨0,0⟩⟩)
theorem ptsB_at (c:Cv):∀(l:List Pt) (k:Int),c.start≤k→(ptsB k l=true↔(∀i,i<l.length→(l.getD i ⟨0,⟨0,0⟩⟩).fl≥(if i=0 then k else (l.getD (i-1) ⟨0,⟨0,0⟩⟩).fl+1)∧(l.getD i ⟨0,⟨0,0⟩⟩).fl≤100000∧(l.getD i ⟨0,⟨0,0⟩⟩).e.lo≥-1000∧(l.getD i ⟨0,⟨0,0⟩⟩).e.lo≤(l.getD i ⟨0,⟨0,0⟩⟩).e.hi∧(l.getD i ⟨0,⟨0,0⟩⟩).e.hi≤1000))
 |[],k,_=>by simp [ptsB]
 |p::r,k,hk=>by
  simp only [ptsB,Bool.and_eq_true,decide_eq_true_eq]
  constructor
  ·rintro ⟨h1,h2⟩ i hi
   cases i with
   |zero=>simp;omega
   |succ i=>
    have:=(ptsB_at c r (p.fl+1) (by omega)).1 h2 i (by simpa using hi)
    cases i with
    |zero=>simpa using this
    |succ i=>simpa using this
  ·intro h
   have h0:=h 0 (by simp)
   simp only [List.getD_cons_zero,if_true] at h0
   refine ⟨by omega,(ptsB_at c r (p.fl+1) (by omega)).2 fun i hi=>?_⟩
   have:=h (i+1) (by simpa using hi)
   cases i with
   |zero=>simpa using this
   |succ i=>simpa using this
theorem pts_at (c:Cv):ptsB c.start c.ps=true↔∀i,i<c.ps.length→ptAt c i=true:=by
 rw [ptsB_at c c.ps c.start (Int.le_refl _)]
 have key:∀(i:Nat) (h:i<c.ps.length),ptAt c i=true↔(c.start≤(c.ps.getD i ⟨0,⟨0,0⟩⟩).fl∧(i=0∨(c.ps.getD i ⟨0,⟨0,0⟩⟩).fl>(c.ps.getD (i-1) ⟨0,⟨0,0⟩⟩).fl)∧(c.ps.getD i ⟨0,⟨0,0⟩⟩).fl≤100000∧(c.ps.getD i ⟨0,⟨0,0⟩⟩).e.lo≥-1000∧(c.ps.getD i ⟨0,⟨0,0⟩⟩).e.lo≤(c.ps.getD i ⟨0,⟨0,0⟩⟩).e.hi∧(c.ps.getD i ⟨0,⟨0,0⟩⟩).e.hi≤1000):=fun i h=>by
  generalize hq:c.ps.getD i ⟨0,⟨0,0⟩⟩=q
  unfold ptAt ptOK inL
  rw [hq]
  by_cases h0:i=0
  ·rw [if_pos h0]
   simp only [Bool.or_false,Bool.not_or,Bool.not_not,Bool.and_eq_true,decide_eq_true_eq,Bool.not_eq_true',decide_eq_false_iff_not]
   omega
  ·have hp:c.ps[i-1]? = some (c.ps.getD (i-1) ⟨0,⟨0,0⟩⟩):=by
    rw [List.getD_eq_getElem?_getD,List.getElem?_eq_getElem (by omega)];rfl
   generalize c.ps.getD (i-1) ⟨0,⟨0,0⟩⟩=u at hp ⊢
   rw [if_neg h0,hp]
   simp only [Bool.not_or,Bool.not_not,Bool.and_eq_true,decide_eq_true_eq,Bool.not_eq_true',decide_eq_false_iff_not]
   omega
 constructor
 ·intro h i hi
  obtain ⟨h1,h2,h3,h4,h5⟩:=h i hi
  rw [key i hi]
  have hprev:i≠0→c.start≤(c.ps.getD (i-1) ⟨0,⟨0,0⟩⟩).fl:=fun h0=>by
   have:∀j,j<c.ps.length→c.start≤(c.ps.getD j ⟨0,⟨0,0⟩⟩).fl:=fun j=>by
    induction j with
    |zero=>intro hj;have:=(h 0 hj).1;simpa using this
    |succ j ih=>
     intro hj
     have h6:=(h (j+1) hj).1
     have h7:=ih (by omega)
     rw [if_neg (by omega),Nat.add_sub_cancel] at h6
     omega
   exact this _ (by omega)
  by_cases h0:i=0
  ·rw [if_pos h0] at h1;exact ⟨by omega,.inl h0,h2,h3,h4,h5⟩
  ·rw [if_neg h0] at h1
   have:=hprev h0
   exact ⟨by omega,.inr (by omega),h2,h3,h4,h5⟩
 ·intro h i hi
  obtain ⟨h1,h2,h3⟩:=(key i hi).1 (h i hi)
  refine ⟨?_,h3⟩
  by_cases h0:i=0
  ·rw [if_pos h0];exact h1
  ·rw [if_neg h0]
   have:=h2.resolve_left h0
   omega
theorem curveB_no {c:Cv}{k:Nat}(hk:k<c.ps.length)(h:ptAt c k=false):curveB c=false:=by
 unfold curveB
 cases hs:ptsB c.start c.ps with
 |false=>simp
 |true=>rw [(pts_at c).1 hs k hk] at h;cases h
theorem curveB_yes {c:Cv}(h:∀i,i<c.ps.length→ptAt c i=true):curveB c=(inL c.start 0 100000&&inL c.steep 0 1000&&decide ((c.ps.length:Int)≤10)):=by
 unfold curveB inL
 rw [(pts_at c).2 h,Bool.and_true]
 have:decide (c.ps.length≤10)=decide ((c.ps.length:Int)≤10):=by rw [decide_eq_decide];omega
 rw [this]
 simp only [Bool.and_assoc]
theorem c_meterworksref03_Curve (c:Cv)(hl:c.ps.length≤1000):Contract Try.prog 6 [cvV c] (.bool (curveB c)) []:=by
 refine con_of follows_mixed Try.func6 rfl (by simp only [List.length_cons,List.length_nil,Try.ntmps6];omega) V215 rfl ?_
 refine Exec.reg ?_
 iterate 2 (refine Run.o ?_)
 refine Run.nil ?_
 refine Exec.assocS ?_
 refine Exec.reg ?_
 refine Run.o ?_
 refine Run.nil ?_
 refine Exec.blk ?_
 refine Exec.forA [1,3] [1] (c.ps.length) (fun k=>[.slot 3 (.int k)]) (fun k=>∀i,i<k→ptAt c i=true) (fun k=>by simp only [go_sem]<;>rfl) V180 ?_ (fun k hk hX=>?_)
 ·exact fun i hi=>absurd hi (by omega)
 ·skip
  refine Exec.assocS ?_
  refine Exec.reg ?_
  iterate 5 (refine Run.o ?_)
  refine Run.nil ?_
  refine Exec.cndS V208 (fun hb9=>?_) (fun hb9=>?_)
  ·skip
   have hlt:=lt_of_dec hb9
   obtain ⟨s,hs⟩:=elem_of hb9
   refine Exec.skipS ?_
   refine Exec.blk ?_
   refine Exec.reg ?_
   iterate 3 (refine Run.o1 V203 ?_)
   refine Run.o1 V116 ?_
   iterate 3 (refine Run.o1 V203 ?_)
   refine Run.nil ?_
   by_cases hk0:k=0
   ·skip
    subst hk0
    refine Exec.opk 45 ?_
    iterate 4 (refine OpenK.o1 V105 ?_)
    refine OpenK.cal (c_meterworksref03_in _ _ _) V210 V105 V16 (fr0) V105 V208 V208 ?_
    iterate 2 (refine OpenK.o1 V105 ?_)
    iterate 3 (refine OpenK.gop V208 V105 V208 ?_)
    iterate 10 (refine OpenK.s ?_)
    refine OpenK.gop V208 V105 V208 ?_
    iterate 2 (refine OpenK.o1 V105 ?_)
    iterate 4 (refine OpenK.gop V208 V105 V208 ?_)
    iterate 2 (refine OpenK.o1 V105 ?_)
    iterate 7 (refine OpenK.gop V208 V105 V208 ?_)
    iterate 2 (refine OpenK.o1 V105 ?_)
    iterate 4 (refine OpenK.gop V208 V105 V208 ?_)
    refine OpenK.o1 V105 ?_
    refine OpenK.nil (OpenE.finT V215 V215 V215 ?_)
    refine Exec.cnd V105 (fun hb59=>?_) (fun hb59=>?_)
    ·skip
     have hr:curveB c=false:=curveB_no hlt (by unfold ptAt;rw [getD_of hs];simp only [ptOK,if_true,Bool.or_false];revert hb59;cases inL s.fl c.start 100000<;>simp<;>omega)
     refine Exec.reg ?_
     refine Run.o1 V202 ?_
     refine Run.nil ?_
     refine BlkK.ret ?_
     refine ForK.ret ?_
     refine BlkK.ret ?_
     exact Ends.fin [] (rs:=[.tmp 2]) rfl V202 V161
    ·skip
     have hXn:∀i,i<0+1→ptAt c i=true:=fun i hi=>by
      have:i=0:=by omega
      subst this
      unfold ptAt;rw [getD_of hs];simp only [ptOK,if_true,Bool.or_false];revert hb59;cases inL s.fl c.start 100000<;>simp<;>omega
     refine BlkK.nrm ?_
     refine Exec.reg1 ?_
     refine Run.o1 V105 ?_
     refine Run.o1 V36 ?_
     refine Run.o1 V105 ?_
     refine Run.nil ?_
     refine ForK.nxt ?_ ?_ ?_
     ·omega
     ·exact Ghost.kp [1,3] [1] V89
     ·exact hXn
   ·skip
    obtain ⟨p,hp⟩:∃p,c.ps[k-1]? = some p:=⟨_,List.getElem?_eq_getElem (by omega)⟩
    have hk1:decide ((k:Int)>0)=true:=by simp;omega
    have t1:((k:Int)-1).toNat=k-1:=by omega
    refine Exec.opk 45 ?_
    iterate 4 (refine OpenK.o1 V150 ?_)
    refine OpenK.cal (c_meterworksref03_in _ _ _) V210 V150 V16 (fr0) V150 V208 V208 ?_
    iterate 2 (refine OpenK.o1 V150 ?_)
    iterate 8 (refine OpenK.gop V208 V150 V208 ?_)
    refine OpenK.gop V208 V63 V208 ?_
    refine OpenK.gop V208 V72 V208 ?_
    iterate 4 (refine OpenK.gop V208 V150 V208 ?_)
    iterate 2 (refine OpenK.o1 V150 ?_)
    iterate 4 (refine OpenK.gop V208 V150 V208 ?_)
    iterate 2 (refine OpenK.o1 V150 ?_)
    iterate 7 (refine OpenK.gop V208 V150 V208 ?_)
    iterate 2 (refine OpenK.o1 V150 ?_)
    iterate 4 (refine OpenK.gop V208 V150 V208 ?_)
    refine OpenK.o1 V150 ?_
    refine OpenK.nil (OpenE.finT V215 V215 V215 ?_)
    refine Exec.cnd V150 (fun hb59=>?_) (fun hb59=>?_)
    ·skip
     have hr:curveB c=false:=curveB_no hlt (by unfold ptAt;rw [getD_of hs,if_neg hk0,hp];simp only [ptOK];revert hb59;cases inL s.fl c.start 100000<;>simp<;>omega)
     refine Exec.reg ?_
     refine Run.o1 V202 ?_
     refine Run.nil ?_
     refine BlkK.ret ?_
     refine ForK.ret ?_
     refine BlkK.ret ?_
     exact Ends.fin [] (rs:=[.tmp 2]) rfl V202 V161
    ·skip
     have hXn:∀i,i<k+1→ptAt c i=true:=fun i hi=>by
      by_cases hik:i<k
      ·exact hX i hik
      have:i=k:=by omega
      subst this
      unfold ptAt;rw [getD_of hs,if_neg hk0,hp];simp only [ptOK];revert hb59;cases inL s.fl c.start 100000<;>simp<;>omega
     refine BlkK.nrm ?_
     refine Exec.reg1 ?_
     refine Run.o1 V150 ?_
     refine Run.o1 V63 ?_
     refine Run.o1 V150 ?_
     refine Run.nil ?_
     refine ForK.nxt ?_ ?_ ?_
     ·omega
     ·exact Ghost.kp [1,3] [1] (by simp only [go_sem,hs,hp,hk1,t1,Bool.and_true]<;>first|exact eqz|rfl)
     ·exact hXn
  ·skip
   have hr:=curveB_yes (c:=c) (fun i hi=>hX i (by have:=ge_of_dec hb9;omega))
   refine Exec.exitS ?_
   refine ForK.ext ?_
   refine BlkK.hit ?_
   refine Exec.reg ?_
   iterate 2 (refine Run.o1 V202 ?_)
   refine Run.c1 (c_meterworksref03_in _ _ _) V202 V202 ?_
   refine Run.o1 V202 ?_
   iterate 2 (refine Run.gop V208 V202 V208 ?_)
   refine Run.gcal V208 (c_meterworksref03_in _ _ _) V210 V202 V16 V202 ?_
   iterate 2 (refine Run.o1 V202 ?_)
   iterate 4 (refine Run.gop V208 V202 V208 ?_)
   iterate 2 (refine Run.o1 V202 ?_)
   refine Run.nil ?_
   exact Ends.fin [] (rs:=[.tmp 2]) rfl V202 V161
end Go.Mw
namespace Go.Mw
open Go.Proofs
open Go.Li
theorem c_insertionSort_Point {g:FuncId}{ds:List D}(c:Pt→Pt→Int)(hg:canCall Try.prog g=true)(hc:∀x y,Contract Try.prog g (ptV x::ptV y::ds.map fun x=>.leaf (.d x)) (.int (c x y)) [])(p s q:List Pt)(n:Nat)(hn:(p++s++q).length=n)(hn2:n≤1000):Con Try.prog 84 [.leaf (.own 900 0 n n),.int p.length,.int (p.length+s.length),.leaf (.d (.fn g ds))] [(900,.arr 54 3 ((p++s++q).map encPt))] (.ret (.tup []) [(900,.arr 54 3 ((p++isortE (fun x y=>decide (c x y<0)) s++q).map encPt))]):=by
 have hps:p.length+s.length+q.length=n:=by rw [←hn];simp;omega
 generalize hlt:(fun x y=>decide (c x y<0))=lt
 refine con_of follows_mixed Try.func84 rfl (by simp only [List.length_cons,List.length_nil,Try.ntmps84];omega) V215 rfl ?_
 refine Exec.reg ?_
 refine Run.o ?_
 refine Run.o1 V91 ?_
 refine Run.o ?_
 refine Run.nil ?_
 refine Exec.blk1 ?_
 refine Exec.forA [0,1,2,3,8] [900] (s.length) (fun k=>[.slot 8 (.int ((p.length:Int)+1+k)),.obj 900 (.arr 54 3 ((p++(isortE lt (s.take (k+1))++s.drop (k+1))++q).map encPt))]) (fun _=>True) (fun k=>by simp only [go_sem]<;>rfl) (by simp only [go_sem,Nat.zero_add,isortE_one,Int.natCast_zero,Int.add_zero]<;>rfl) ?_ (fun k hk hX=>?_)
 ·trivial
 ·skip
  refine Exec.assocS ?_
  refine Exec.reg ?_
  iterate 3 (refine Run.o ?_)
  refine Run.nil ?_
  refine Exec.cndS V208 (fun hb14=>?_) (fun hb14=>?_)
  ·skip
   have hk1:k+1<s.length:=by have:=of_decide_eq_true hb14;omega
   have htl:(isortE lt (s.take (k+1))).length=k+1:=by rw [len_isortE];simp;omega
   obtain ⟨x,hx⟩:∃x,s[k+1]? = some x:=⟨_,List.getElem?_eq_getElem hk1⟩
   have hdr:s.drop (k+1)=x::s.drop (k+2):=by
    obtain ⟨h1,rfl⟩:=List.getElem?_eq_some_iff.1 hx
    exact (List.getElem_cons_drop h1).symm
   have e0:Lt p (isortE lt (s.take (k+1))) (s.drop (k+2)++q) x (k+1)=p++(isortE lt (s.take (k+1))++s.drop (k+1))++q:=by
    have:=Lt_start (p:=p) (t:=isortE lt (s.take (k+1))) (r:=s.drop (k+2)++q) (x:=x)
    rw [htl] at this
    rw [this,hdr];simp
   refine Exec.skipS ?_
   refine Exec.blk ?_
   refine Exec.reg ?_
   iterate 2 (refine Run.o ?_)
   refine Run.nil ?_
   refine Exec.blk1 ?_
   refine Exec.forA [0,1,2,3,8,9] [900] (k+1) (fun j=>[.slot 9 (.int ((p.length:Int)+1+k-j)),.obj 900 (.arr 54 3 ((Lt p (isortE lt (s.take (k+1))) (s.drop (k+2)++q) x (k+1-j)).map encPt))]) (fun j=>scanE lt x (isortE lt (s.take (k+1))) (k+1)=scanE lt x (isortE lt (s.take (k+1))) (k+1-j)) (fun j=>by simp only [go_sem]<;>rfl) (by simp only [go_sem,Nat.sub_zero,e0,Int.natCast_zero,Int.sub_zero]<;>rfl) ?_ (fun j hj Xj=>?_)
   ·rfl
   ·skip
    refine Exec.assocS ?_
    by_cases hj1:j<k+1
    ·skip
     have hg1:decide ((p.length:Int)+1+k-j>p.length)=true:=by simp;omega
     obtain ⟨y,hy⟩:∃y,(isortE lt (s.take (k+1)))[k-j]? = some y:=⟨_,List.getElem?_eq_getElem (by omega)⟩
     have hcj:k+1-j=k-j+1:=by omega
     have hcj2:k+1-(j+1)=k-j:=by omega
     have t1:((p.length:Int)+1+k-j).toNat=p.length+(k+1-j):=by omega
     have t2:((p.length:Int)+1+k-j-1).toNat=p.length+(k-j):=by omega
     have fl:(Lt p (isortE lt (s.take (k+1))) (s.drop (k+2)++q) x (k+1-j)).length=n:=by rw [Lt_len (by omega),htl,List.length_append,List.length_drop];omega
     have fx:=Lt_x (p:=p) (t:=isortE lt (s.take (k+1))) (r:=s.drop (k+2)++q) (x:=x) (c:=k+1-j) (by omega)
     have fy:(Lt p (isortE lt (s.take (k+1))) (s.drop (k+2)++q) x (k+1-j))[p.length+(k-j)]? = some y:=by rw [hcj];exact Lt_y hy
     refine Exec.opk 19 ?_
     iterate 4 (refine OpenK.o1 V160 ?_)
     iterate 3 (refine OpenK.y1 V160 ?_)
     refine OpenK.y1 V84 ?_
     iterate 3 (refine OpenK.y1 V160 ?_)
     refine OpenK.y1 (by simp only [go_sem,hg1,t1,t2,fl,fx,fy];(try simp (disch:=omega) only [IntWalk.i64_in,IntWalk.u64_in,IntWalk.i32_in,IntWalk.u8_in,if_neg,if_pos])<;> rfl) ?_
     refine OpenK.y1 V84 ?_
     refine OpenK.y1 V160 ?_
     refine OpenK.calw V208 (hc x y) (by assumption) V160 V160 (by exact ⟨by first|exact WkR.pure rfl|exact WkR.nil _|exact WkR.int (by omega),by first|exact WkR.pure rfl|exact WkR.nil _|exact WkR.int (by omega),wkr_caps _ _ _⟩) (fr0) V160 V208 V208 ?_
     refine OpenK.y1 V160 ?_
     refine OpenK.o1 V160 ?_
     refine OpenK.nil (OpenE.finT V215 V215 V215 ?_)
     refine Exec.cndS V160 (fun hb34=>?_) (fun hb34=>?_)
     ·skip
      have hl:lt x y=true:=by rw [←hlt];exact hb34
      have hXn:scanE lt x (isortE lt (s.take (k+1))) (k+1)=scanE lt x (isortE lt (s.take (k+1))) (k+1-(j+1)):=by rw [Xj,hcj,scanE_yes hy hl,hcj2]
      have fset:Lt p (isortE lt (s.take (k+1))) (s.drop (k+2)++q) x (k+1-(j+1))=((Lt p (isortE lt (s.take (k+1))) (s.drop (k+2)++q) x (k+1-j)).set (p.length+(k+1-j)) y).set (p.length+(k-j)) x:=by
       have:=Lt_set (p:=p) (r:=s.drop (k+2)++q) (x:=x) hy
       rw [hcj,hcj2];exact this.symm
      have hne:p.length+(k+1-j)≠p.length+(k-j):=by omega
      refine Exec.skipS ?_
      refine Exec.blk ?_
      refine Exec.opk1 20 ?_
      iterate 4 (refine OpenK.o1 V135 ?_)
      refine OpenK.o1 V56 ?_
      iterate 2 (refine OpenK.o1 V135 ?_)
      refine OpenK.o1 V56 ?_
      refine OpenK.o1 V53 ?_
      iterate 3 (refine OpenK.o1 V135 ?_)
      refine OpenK.o1 V53 ?_
      refine OpenK.o1 V135 ?_
      refine OpenK.o1 V53 ?_
      refine OpenK.o1 V135 ?_
      refine OpenK.o1 V53 ?_
      refine OpenK.o1 V135 ?_
      refine OpenK.nil (OpenE.finT V215 V215 V215 ?_)
      refine BlkK.nrm ?_
      refine Exec.reg1 ?_
      refine Run.o1 V135 ?_
      refine Run.o1 V56 ?_
      refine Run.o1 V135 ?_
      refine Run.nil ?_
      refine ForK.nxt ?_ ?_ ?_
      ·omega
      ·exact Ghost.kp [0,1,2,3,8,9] [900] (by simp only [go_sem,hg1,t1,t2,fl,fx,fy,List.getElem?_set_ne hne]<;>first|((repeat' (first|with_reducible_and_instances rfl|refine st_eq ?_ ?_ ?_|refine ret_eq ?_|refine tup_eq ?_|refine tm_eq ?_ ?_|refine arr_eq ?_|refine cells_eq ?_|refine val_eq ?_|refine ls_eq ?_ ?_|refine own_eq ?_ ?_|refine sl_eq ?_|refine b_eq ?_|(refine i_eq ?_;omega)));(rw [fset,List.map_set,List.map_set];rfl))|rfl)
      ·exact hXn
     ·skip
      have hl:lt x y=false:=by rw [←hlt];exact hb34
      have hsc:scanE lt x (isortE lt (s.take (k+1))) (k+1)=k+1-j:=by rw [Xj,hcj,scanE_no hy hl]
      have en:p++(isortE lt (s.take (k+1+1))++s.drop (k+1+1))++q=Lt p (isortE lt (s.take (k+1))) (s.drop (k+2)++q) x (k+1-j):=by
       have ht2:s.take (k+1+1)=s.take (k+1)++[x]:=by rw [List.take_succ,hx];rfl
       rw [←hsc,ht2,isortE_snoc]
       have:=Lt_ins (lt:=lt) (p:=p) (t:=isortE lt (s.take (k+1))) (r:=s.drop (k+2)++q) (x:=x)
       rw [htl] at this
       rw [this];simp
      refine Exec.exitS ?_
      refine ForK.ext ?_
      refine Blk1K.hit ?_
      refine BlkK.nrm ?_
      refine Exec.reg1 ?_
      refine Run.o1 (by simp only [go_sem,hg1,t1,t2,fl,fx,fy,en]<;>rfl) ?_
      refine Run.o1 (by simp only [go_sem,hg1,t1,t2,fl,fx,fy,en];(try simp (disch:=omega) only [IntWalk.i64_in,IntWalk.u64_in,IntWalk.i32_in,IntWalk.u8_in,if_neg,if_pos])<;> rfl) ?_
      refine Run.o1 (by simp only [go_sem,hg1,t1,t2,fl,fx,fy,en]<;>rfl) ?_
      refine Run.nil ?_
      refine ForK.nxt ?_ ?_ ?_
      ·omega
      ·exact Ghost.kp [0,1,2,3,8] [900] (by simp only [go_sem,hg1,t1,t2,fl,fx,fy,en]<;>first|exact eqz|rfl)
      ·trivial
    ·skip
     have hg1:decide ((p.length:Int)+1+k-j>p.length)=false:=by simp;omega
     refine Exec.opk 19 ?_
     iterate 4 (refine OpenK.o1 (by simp only [go_sem,hg1]<;>rfl) ?_)
     iterate 12 (refine OpenK.s ?_)
     refine OpenK.o1 (by simp only [go_sem,hg1]<;>rfl) ?_
     refine OpenK.nil (OpenE.finT V215 V215 V215 ?_)
     refine Exec.cndS (by simp only [go_sem,hg1]<;>rfl) (fun hb34=>?_) (fun hb34=>?_)
     ·exact absurd hb34 (by simp)
     ·skip
      have hsc:scanE lt x (isortE lt (s.take (k+1))) (k+1)=k+1-j:=by rw [Xj,show k+1-j=0 by omega];rfl
      have en:p++(isortE lt (s.take (k+1+1))++s.drop (k+1+1))++q=Lt p (isortE lt (s.take (k+1))) (s.drop (k+2)++q) x (k+1-j):=by
       have ht2:s.take (k+1+1)=s.take (k+1)++[x]:=by rw [List.take_succ,hx];rfl
       rw [←hsc,ht2,isortE_snoc]
       have:=Lt_ins (lt:=lt) (p:=p) (t:=isortE lt (s.take (k+1))) (r:=s.drop (k+2)++q) (x:=x)
       rw [htl] at this
       rw [this];simp
      refine Exec.exitS ?_
      refine ForK.ext ?_
      refine Blk1K.hit ?_
      refine BlkK.nrm ?_
      refine Exec.reg1 ?_
      refine Run.o1 (by simp only [go_sem,hg1,en]<;>rfl) ?_
      refine Run.o1 (by simp only [go_sem,hg1,en];(try simp (disch:=omega) only [IntWalk.i64_in,IntWalk.u64_in,IntWalk.i32_in,IntWalk.u8_in,if_neg,if_pos])<;> rfl) ?_
      refine Run.o1 (by simp only [go_sem,hg1,en]<;>rfl) ?_
      refine Run.nil ?_
      refine ForK.nxt ?_ ?_ ?_
      ·omega
      ·exact Ghost.kp [0,1,2,3,8] [900] (by simp only [go_sem,hg1,en]<;>first|exact eqz|rfl)
      ·trivial
  ·skip
   have hk1:s.length≤k+1:=by have:=of_decide_eq_false hb14;omega
   have e:p++(isortE lt (s.take (k+1))++s.drop (k+1))++q=p++isortE lt s++q:=by rw [List.take_of_length_le hk1,List.drop_eq_nil_of_le hk1,List.append_nil]
   refine Exec.exitS ?_
   refine ForK.ext ?_
   refine Blk1K.hit ?_
   exact Ends.fin0 [900] (rs:=[]) rfl V205 V167
def lenB (n:Nat):Int:=if n=0 then 0 else if n=1 then 1 else if n≤3 then 2 else if n≤7 then 3 else 4
theorem c_Len64 (n:Nat)(hn:n≤12):Contract Try.prog 93 [.raw (.int .u64 (n:Int))] (.int (lenB n)) []:=by
 rcases (show n=0∨n=1∨n=2∨n=3∨n=4∨n=5∨n=6∨n=7∨n=8∨n=9∨n=10∨n=11∨n=12 from by omega) with rfl|rfl|rfl|rfl|rfl|rfl|rfl|rfl|rfl|rfl|rfl|rfl|rfl
 ·skip
  refine con_of follows_mixed Try.func93 rfl V144 V215 rfl ?_
  refine Exec.reg ?_
  refine Run.o ?_
  refine Run.nil ?_
  refine Exec.assocS ?_
  refine Exec.reg ?_
  iterate 2 (refine Run.o ?_)
  refine Run.nil ?_
  refine Exec.cndS V208 (fun hb4=>?_) (fun hb4=>?_)
  ·skip
   exact absurd hb4 (by decide)
  ·skip
   refine Exec.skipS ?_
   refine Exec.assocS ?_
   refine Exec.reg ?_
   iterate 2 (refine Run.o ?_)
   refine Run.nil ?_
   refine Exec.cndS V208 (fun hb8=>?_) (fun hb8=>?_)
   ·skip
    exact absurd hb8 (by decide)
   ·skip
    refine Exec.skipS ?_
    refine Exec.assocS ?_
    refine Exec.reg ?_
    iterate 2 (refine Run.o ?_)
    refine Run.nil ?_
    refine Exec.cndS V208 (fun hb14=>?_) (fun hb14=>?_)
    ·skip
     exact absurd hb14 (by decide)
    ·skip
     refine Exec.skipS ?_
     refine Exec.reg ?_
     iterate 2 (refine Run.o ?_)
     refine Run.o1 V91 ?_
     refine Run.o ?_
     iterate 2 (refine Run.o1 V91 ?_)
     refine Run.o ?_
     refine Run.nil ?_
     exact Ends.fin [] (rs:=[.tmp 2]) rfl V208 V15
 ·skip
  refine con_of follows_mixed Try.func93 rfl V144 V215 rfl ?_
  refine Exec.reg ?_
  refine Run.o ?_
  refine Run.nil ?_
  refine Exec.assocS ?_
  refine Exec.reg ?_
  iterate 2 (refine Run.o ?_)
  refine Run.nil ?_
  refine Exec.cndS V208 (fun hb4=>?_) (fun hb4=>?_)
  ·skip
   exact absurd hb4 (by decide)
  ·skip
   refine Exec.skipS ?_
   refine Exec.assocS ?_
   refine Exec.reg ?_
   iterate 2 (refine Run.o ?_)
   refine Run.nil ?_
   refine Exec.cndS V208 (fun hb8=>?_) (fun hb8=>?_)
   ·skip
    exact absurd hb8 (by decide)
   ·skip
    refine Exec.skipS ?_
    refine Exec.assocS ?_
    refine Exec.reg ?_
    iterate 2 (refine Run.o ?_)
    refine Run.nil ?_
    refine Exec.cndS V208 (fun hb14=>?_) (fun hb14=>?_)
    ·skip
     exact absurd hb14 (by decide)
    ·skip
     refine Exec.skipS ?_
     refine Exec.reg ?_
     iterate 2 (refine Run.o ?_)
     refine Run.o1 V91 ?_
     refine Run.o ?_
     iterate 2 (refine Run.o1 V91 ?_)
     refine Run.o ?_
     refine Run.nil ?_
     exact Ends.fin [] (rs:=[.tmp 2]) rfl V208 V15
 ·skip
  refine con_of follows_mixed Try.func93 rfl V144 V215 rfl ?_
  refine Exec.reg ?_
  refine Run.o ?_
  refine Run.nil ?_
  refine Exec.assocS ?_
  refine Exec.reg ?_
  iterate 2 (refine Run.o ?_)
  refine Run.nil ?_
  refine Exec.cndS V208 (fun hb4=>?_) (fun hb4=>?_)
  ·skip
   exact absurd hb4 (by decide)
  ·skip
   refine Exec.skipS ?_
   refine Exec.assocS ?_
   refine Exec.reg ?_
   iterate 2 (refine Run.o ?_)
   refine Run.nil ?_
   refine Exec.cndS V208 (fun hb8=>?_) (fun hb8=>?_)
   ·skip
    exact absurd hb8 (by decide)
   ·skip
    refine Exec.skipS ?_
    refine Exec.assocS ?_
    refine Exec.reg ?_
    iterate 2 (refine Run.o ?_)
    refine Run.nil ?_
    refine Exec.cndS V208 (fun hb14=>?_) (fun hb14=>?_)
    ·skip
     exact absurd hb14 (by decide)
    ·skip
     refine Exec.skipS ?_
     refine Exec.reg ?_
     iterate 2 (refine Run.o ?_)
     refine Run.o1 V91 ?_
     refine Run.o ?_
     iterate 2 (refine Run.o1 V91 ?_)
     refine Run.o ?_
     refine Run.nil ?_
     exact Ends.fin [] (rs:=[.tmp 2]) rfl V208 V15
 ·skip
  refine con_of follows_mixed Try.func93 rfl V144 V215 rfl ?_
  refine Exec.reg ?_
  refine Run.o ?_
  refine Run.nil ?_
  refine Exec.assocS ?_
  refine Exec.reg ?_
  iterate 2 (refine Run.o ?_)
  refine Run.nil ?_
  refine Exec.cndS V208 (fun hb4=>?_) (fun hb4=>?_)
  ·skip
   exact absurd hb4 (by decide)
  ·skip
   refine Exec.skipS ?_
   refine Exec.assocS ?_
   refine Exec.reg ?_
   iterate 2 (refine Run.o ?_)
   refine Run.nil ?_
   refine Exec.cndS V208 (fun hb8=>?_) (fun hb8=>?_)
   ·skip
    exact absurd hb8 (by decide)
   ·skip
    refine Exec.skipS ?_
    refine Exec.assocS ?_
    refine Exec.reg ?_
    iterate 2 (refine Run.o ?_)
    refine Run.nil ?_
    refine Exec.cndS V208 (fun hb14=>?_) (fun hb14=>?_)
    ·skip
     exact absurd hb14 (by decide)
    ·skip
     refine Exec.skipS ?_
     refine Exec.reg ?_
     iterate 2 (refine Run.o ?_)
     refine Run.o1 V91 ?_
     refine Run.o ?_
     iterate 2 (refine Run.o1 V91 ?_)
     refine Run.o ?_
     refine Run.nil ?_
     exact Ends.fin [] (rs:=[.tmp 2]) rfl V208 V15
 ·skip
  refine con_of follows_mixed Try.func93 rfl V144 V215 rfl ?_
  refine Exec.reg ?_
  refine Run.o ?_
  refine Run.nil ?_
  refine Exec.assocS ?_
  refine Exec.reg ?_
  iterate 2 (refine Run.o ?_)
  refine Run.nil ?_
  refine Exec.cndS V208 (fun hb4=>?_) (fun hb4=>?_)
  ·skip
   exact absurd hb4 (by decide)
  ·skip
   refine Exec.skipS ?_
   refine Exec.assocS ?_
   refine Exec.reg ?_
   iterate 2 (refine Run.o ?_)
   refine Run.nil ?_
   refine Exec.cndS V208 (fun hb8=>?_) (fun hb8=>?_)
   ·skip
    exact absurd hb8 (by decide)
   ·skip
    refine Exec.skipS ?_
    refine Exec.assocS ?_
    refine Exec.reg ?_
    iterate 2 (refine Run.o ?_)
    refine Run.nil ?_
    refine Exec.cndS V208 (fun hb14=>?_) (fun hb14=>?_)
    ·skip
     exact absurd hb14 (by decide)
    ·skip
     refine Exec.skipS ?_
     refine Exec.reg ?_
     iterate 2 (refine Run.o ?_)
     refine Run.o1 V91 ?_
     refine Run.o ?_
     iterate 2 (refine Run.o1 V91 ?_)
     refine Run.o ?_
     refine Run.nil ?_
     exact Ends.fin [] (rs:=[.tmp 2]) rfl V208 V15
 ·skip
  refine con_of follows_mixed Try.func93 rfl V144 V215 rfl ?_
  refine Exec.reg ?_
  refine Run.o ?_
  refine Run.nil ?_
  refine Exec.assocS ?_
  refine Exec.reg ?_
  iterate 2 (refine Run.o ?_)
  refine Run.nil ?_
  refine Exec.cndS V208 (fun hb4=>?_) (fun hb4=>?_)
  ·skip
   exact absurd hb4 (by decide)
  ·skip
   refine Exec.skipS ?_
   refine Exec.assocS ?_
   refine Exec.reg ?_
   iterate 2 (refine Run.o ?_)
   refine Run.nil ?_
   refine Exec.cndS V208 (fun hb8=>?_) (fun hb8=>?_)
   ·skip
    exact absurd hb8 (by decide)
   ·skip
    refine Exec.skipS ?_
    refine Exec.assocS ?_
    refine Exec.reg ?_
    iterate 2 (refine Run.o ?_)
    refine Run.nil ?_
    refine Exec.cndS V208 (fun hb14=>?_) (fun hb14=>?_)
    ·skip
     exact absurd hb14 (by decide)
    ·skip
     refine Exec.skipS ?_
     refine Exec.reg ?_
     iterate 2 (refine Run.o ?_)
     refine Run.o1 V91 ?_
     refine Run.o ?_
     iterate 2 (refine Run.o1 V91 ?_)
     refine Run.o ?_
     refine Run.nil ?_
     exact Ends.fin [] (rs:=[.tmp 2]) rfl V208 V15
 ·skip
  refine con_of follows_mixed Try.func93 rfl V144 V215 rfl ?_
  refine Exec.reg ?_
  refine Run.o ?_
  refine Run.nil ?_
  refine Exec.assocS ?_
  refine Exec.reg ?_
  iterate 2 (refine Run.o ?_)
  refine Run.nil ?_
  refine Exec.cndS V208 (fun hb4=>?_) (fun hb4=>?_)
  ·skip
   exact absurd hb4 (by decide)
  ·skip
   refine Exec.skipS ?_
   refine Exec.assocS ?_
   refine Exec.reg ?_
   iterate 2 (refine Run.o ?_)
   refine Run.nil ?_
   refine Exec.cndS V208 (fun hb8=>?_) (fun hb8=>?_)
   ·skip
    exact absurd hb8 (by decide)
   ·skip
    refine Exec.skipS ?_
    refine Exec.assocS ?_
    refine Exec.reg ?_
    iterate 2 (refine Run.o ?_)
    refine Run.nil ?_
    refine Exec.cndS V208 (fun hb14=>?_) (fun hb14=>?_)
    ·skip
     exact absurd hb14 (by decide)
    ·skip
     refine Exec.skipS ?_
     refine Exec.reg ?_
     iterate 2 (refine Run.o ?_)
     refine Run.o1 V91 ?_
     refine Run.o ?_
     iterate 2 (refine Run.o1 V91 ?_)
     refine Run.o ?_
     refine Run.nil ?_
     exact Ends.fin [] (rs:=[.tmp 2]) rfl V208 V15
 ·skip
  refine con_of follows_mixed Try.func93 rfl V144 V215 rfl ?_
  refine Exec.reg ?_
  refine Run.o ?_
  refine Run.nil ?_
  refine Exec.assocS ?_
  refine Exec.reg ?_
  iterate 2 (refine Run.o ?_)
  refine Run.nil ?_
  refine Exec.cndS V208 (fun hb4=>?_) (fun hb4=>?_)
  ·skip
   exact absurd hb4 (by decide)
  ·skip
   refine Exec.skipS ?_
   refine Exec.assocS ?_
   refine Exec.reg ?_
   iterate 2 (refine Run.o ?_)
   refine Run.nil ?_
   refine Exec.cndS V208 (fun hb8=>?_) (fun hb8=>?_)
   ·skip
    exact absurd hb8 (by decide)
   ·skip
    refine Exec.skipS ?_
    refine Exec.assocS ?_
    refine Exec.reg ?_
    iterate 2 (refine Run.o ?_)
    refine Run.nil ?_
    refine Exec.cndS V208 (fun hb14=>?_) (fun hb14=>?_)
    ·skip
     exact absurd hb14 (by decide)
    ·skip
     refine Exec.skipS ?_
     refine Exec.reg ?_
     iterate 2 (refine Run.o ?_)
     refine Run.o1 V91 ?_
     refine Run.o ?_
     iterate 2 (refine Run.o1 V91 ?_)
     refine Run.o ?_
     refine Run.nil ?_
     exact Ends.fin [] (rs:=[.tmp 2]) rfl V208 V15
 ·skip
  refine con_of follows_mixed Try.func93 rfl V144 V215 rfl ?_
  refine Exec.reg ?_
  refine Run.o ?_
  refine Run.nil ?_
  refine Exec.assocS ?_
  refine Exec.reg ?_
  iterate 2 (refine Run.o ?_)
  refine Run.nil ?_
  refine Exec.cndS V208 (fun hb4=>?_) (fun hb4=>?_)
  ·skip
   exact absurd hb4 (by decide)
  ·skip
   refine Exec.skipS ?_
   refine Exec.assocS ?_
   refine Exec.reg ?_
   iterate 2 (refine Run.o ?_)
   refine Run.nil ?_
   refine Exec.cndS V208 (fun hb8=>?_) (fun hb8=>?_)
   ·skip
    exact absurd hb8 (by decide)
   ·skip
    refine Exec.skipS ?_
    refine Exec.assocS ?_
    refine Exec.reg ?_
    iterate 2 (refine Run.o ?_)
    refine Run.nil ?_
    refine Exec.cndS V208 (fun hb14=>?_) (fun hb14=>?_)
    ·skip
     exact absurd hb14 (by decide)
    ·skip
     refine Exec.skipS ?_
     refine Exec.reg ?_
     iterate 2 (refine Run.o ?_)
     refine Run.o1 V91 ?_
     refine Run.o ?_
     iterate 2 (refine Run.o1 V91 ?_)
     refine Run.o ?_
     refine Run.nil ?_
     exact Ends.fin [] (rs:=[.tmp 2]) rfl V208 V15
 ·skip
  refine con_of follows_mixed Try.func93 rfl V144 V215 rfl ?_
  refine Exec.reg ?_
  refine Run.o ?_
  refine Run.nil ?_
  refine Exec.assocS ?_
  refine Exec.reg ?_
  iterate 2 (refine Run.o ?_)
  refine Run.nil ?_
  refine Exec.cndS V208 (fun hb4=>?_) (fun hb4=>?_)
  ·skip
   exact absurd hb4 (by decide)
  ·skip
   refine Exec.skipS ?_
   refine Exec.assocS ?_
   refine Exec.reg ?_
   iterate 2 (refine Run.o ?_)
   refine Run.nil ?_
   refine Exec.cndS V208 (fun hb8=>?_) (fun hb8=>?_)
   ·skip
    exact absurd hb8 (by decide)
   ·skip
    refine Exec.skipS ?_
    refine Exec.assocS ?_
    refine Exec.reg ?_
    iterate 2 (refine Run.o ?_)
    refine Run.nil ?_
    refine Exec.cndS V208 (fun hb14=>?_) (fun hb14=>?_)
    ·skip
     exact absurd hb14 (by decide)
    ·skip
     refine Exec.skipS ?_
     refine Exec.reg ?_
     iterate 2 (refine Run.o ?_)
     refine Run.o1 V91 ?_
     refine Run.o ?_
     iterate 2 (refine Run.o1 V91 ?_)
     refine Run.o ?_
     refine Run.nil ?_
     exact Ends.fin [] (rs:=[.tmp 2]) rfl V208 V15
 ·skip
  refine con_of follows_mixed Try.func93 rfl V144 V215 rfl ?_
  refine Exec.reg ?_
  refine Run.o ?_
  refine Run.nil ?_
  refine Exec.assocS ?_
  refine Exec.reg ?_
  iterate 2 (refine Run.o ?_)
  refine Run.nil ?_
  refine Exec.cndS V208 (fun hb4=>?_) (fun hb4=>?_)
  ·skip
   exact absurd hb4 (by decide)
  ·skip
   refine Exec.skipS ?_
   refine Exec.assocS ?_
   refine Exec.reg ?_
   iterate 2 (refine Run.o ?_)
   refine Run.nil ?_
   refine Exec.cndS V208 (fun hb8=>?_) (fun hb8=>?_)
   ·skip
    exact absurd hb8 (by decide)
   ·skip
    refine Exec.skipS ?_
    refine Exec.assocS ?_
    refine Exec.reg ?_
    iterate 2 (refine Run.o ?_)
    refine Run.nil ?_
    refine Exec.cndS V208 (fun hb14=>?_) (fun hb14=>?_)
    ·skip
     exact absurd hb14 (by decide)
    ·skip
     refine Exec.skipS ?_
     refine Exec.reg ?_
     iterate 2 (refine Run.o ?_)
     refine Run.o1 V91 ?_
     refine Run.o ?_
     iterate 2 (refine Run.o1 V91 ?_)
     refine Run.o ?_
     refine Run.nil ?_
     exact Ends.fin [] (rs:=[.tmp 2]) rfl V208 V15
 ·skip
  refine con_of follows_mixed Try.func93 rfl V144 V215 rfl ?_
  refine Exec.reg ?_
  refine Run.o ?_
  refine Run.nil ?_
  refine Exec.assocS ?_
  refine Exec.reg ?_
  iterate 2 (refine Run.o ?_)
  refine Run.nil ?_
  refine Exec.cndS V208 (fun hb4=>?_) (fun hb4=>?_)
  ·skip
   exact absurd hb4 (by decide)
  ·skip
   refine Exec.skipS ?_
   refine Exec.assocS ?_
   refine Exec.reg ?_
   iterate 2 (refine Run.o ?_)
   refine Run.nil ?_
   refine Exec.cndS V208 (fun hb8=>?_) (fun hb8=>?_)
   ·skip
    exact absurd hb8 (by decide)
   ·skip
    refine Exec.skipS ?_
    refine Exec.assocS ?_
    refine Exec.reg ?_
    iterate 2 (refine Run.o ?_)
    refine Run.nil ?_
    refine Exec.cndS V208 (fun hb14=>?_) (fun hb14=>?_)
    ·skip
     exact absurd hb14 (by decide)
    ·skip
     refine Exec.skipS ?_
     refine Exec.reg ?_
     iterate 2 (refine Run.o ?_)
     refine Run.o1 V91 ?_
     refine Run.o ?_
     iterate 2 (refine Run.o1 V91 ?_)
     refine Run.o ?_
     refine Run.nil ?_
     exact Ends.fin [] (rs:=[.tmp 2]) rfl V208 V15
 ·skip
  refine con_of follows_mixed Try.func93 rfl V144 V215 rfl ?_
  refine Exec.reg ?_
  refine Run.o ?_
  refine Run.nil ?_
  refine Exec.assocS ?_
  refine Exec.reg ?_
  iterate 2 (refine Run.o ?_)
  refine Run.nil ?_
  refine Exec.cndS V208 (fun hb4=>?_) (fun hb4=>?_)
  ·skip
   exact absurd hb4 (by decide)
  ·skip
   refine Exec.skipS ?_
   refine Exec.assocS ?_
   refine Exec.reg ?_
   iterate 2 (refine Run.o ?_)
   refine Run.nil ?_
   refine Exec.cndS V208 (fun hb8=>?_) (fun hb8=>?_)
   ·skip
    exact absurd hb8 (by decide)
   ·skip
    refine Exec.skipS ?_
    refine Exec.assocS ?_
    refine Exec.reg ?_
    iterate 2 (refine Run.o ?_)
    refine Run.nil ?_
    refine Exec.cndS V208 (fun hb14=>?_) (fun hb14=>?_)
    ·skip
     exact absurd hb14 (by decide)
    ·skip
     refine Exec.skipS ?_
     refine Exec.reg ?_
     iterate 2 (refine Run.o ?_)
     refine Run.o1 V91 ?_
     refine Run.o ?_
     iterate 2 (refine Run.o1 V91 ?_)
     refine Run.o ?_
     refine Run.nil ?_
     exact Ends.fin [] (rs:=[.tmp 2]) rfl V208 V15
theorem c_Len (n:Nat)(hn:n≤12):Contract Try.prog 81 [.raw (.int .u64 (n:Int))] (.int (lenB n)) []:=by
 refine con_of follows_mixed Try.func81 rfl (by simp only [List.length_cons,List.length_nil,Try.ntmps81];omega) V215 rfl ?_
 refine Exec.reg ?_
 refine Run.o ?_
 refine Run.nil ?_
 refine Exec.cndS V208 (fun hb0=>?_) (fun hb0=>?_)
 ·exact absurd hb0 (by simp)
 ·skip
  refine Exec.skipS ?_
  refine Exec.reg ?_
  refine Run.o ?_
  refine Run.c1 (c_Len64 n hn) V208 V208 ?_
  refine Run.o ?_
  refine Run.nil ?_
  exact Ends.fin [] (rs:=[.tmp 2]) rfl V208 V171
theorem c_pdqsort_Point {g:FuncId}{ds:List D}(c:Pt→Pt→Int)(hg:canCall Try.prog g=true)(hc:∀x y,Contract Try.prog g (ptV x::ptV y::ds.map fun x=>.leaf (.d x)) (.int (c x y)) [])(l:List Pt)(hn:l.length≤12)(m:Int):Con Try.prog 80 [.leaf (.own 900 0 l.length l.length),.int 0,.int l.length,.int m,.leaf (.d (.fn g ds))] [(900,.arr 54 3 ((l).map encPt))] (.ret (.tup []) [(900,.arr 54 3 ((isortE (fun x y=>decide (c x y<0)) l).map encPt))]):=by
 have hi:=c_insertionSort_Point c hg hc [] l [] l.length (by simp) (by omega)
 have hle:decide ((l.length:Int)≤12)=true:=by simp;omega
 simp only [List.nil_append,List.append_nil,List.length_nil,Nat.zero_add] at hi
 refine con_of follows_mixed Try.func80 rfl (by simp only [List.length_cons,List.length_nil,Try.ntmps80];omega) V215 rfl ?_
 refine Exec.reg ?_
 refine Run.o1 V173 ?_
 refine Run.nil ?_
 refine Exec.reg ?_
 refine Run.o1 V173 ?_
 refine Run.nil ?_
 refine Exec.blk1 ?_
 refine Exec.forA [0,1,2,3,4,10,11] [900] (1) (fun k=>[]) (fun _=>True) (fun k=>by simp only [go_sem]<;>rfl) V173 ?_ (fun k hk hX=>?_)
 ·trivial
 ·skip
  refine Exec.blk1 ?_
  refine Exec.reg ?_
  iterate 2 (refine Run.o1 V173 ?_)
  refine Run.o1 (by simp only [go_sem,hle,Int.sub_zero];(try simp (disch:=omega) only [IntWalk.i64_in,IntWalk.u64_in,IntWalk.i32_in,IntWalk.u8_in,if_neg,if_pos])<;> rfl) ?_
  refine Run.o1 V173 ?_
  refine Run.nil ?_
  refine Exec.assocS ?_
  refine Exec.reg ?_
  iterate 2 (refine Run.o1 V173 ?_)
  refine Run.nil ?_
  refine Exec.cndS V173 (fun hb25=>?_) (fun hb25=>?_)
  ·skip
   refine Exec.assocS ?_
   refine Exec.reg ?_
   iterate 4 (refine Run.o1 V173 ?_)
   refine Run.lendA 900 900 (hi) (by simp [len_isortE]) (by assumption) V208 V173 V173 (by exact ⟨by first|exact WkR.pure rfl|exact WkR.of rfl rfl|exact WkR.nil _|exact WkR.int V179,by first|exact WkR.pure rfl|exact WkR.of rfl rfl|exact WkR.nil _|exact WkR.int V179,by first|exact WkR.pure rfl|exact WkR.of rfl rfl|exact WkR.nil _|exact WkR.int V179,by first|exact WkR.pure rfl|exact WkR.of rfl rfl|exact WkR.nil _|exact WkR.int V179,wkr_caps _ _ _⟩) V173 ?_
   refine Run.nil ?_
   refine Exec.retS ?_
   refine Blk1K.ret ?_
   refine ForK.ret ?_
   refine Blk1K.ret ?_
   exact Ends.fin [900] (rs:=[]) rfl V173 (by simp only [go_sem,hle,Int.sub_zero]<;>first|rfl|exact eqz)
  ·skip
   exact absurd hb25 (by simp [hle])
theorem c_SortFunc_Point {g:FuncId}{ds:List D}(c:Pt→Pt→Int)(hg:canCall Try.prog g=true)(hc:∀x y,Contract Try.prog g (ptV x::ptV y::ds.map fun x=>.leaf (.d x)) (.int (c x y)) [])(l:List Pt)(hn:l.length≤12):Con Try.prog 73 [.leaf (.own 900 0 l.length l.length),.leaf (.d (.fn g ds))] [(900,.arr 54 3 ((l).map encPt))] (.ret (.tup []) [(900,.arr 54 3 ((isortE (fun x y=>decide (c x y<0)) l).map encPt))]):=by
 have hu:IntKind.u64.wrap (l.length:Int)=((l.length:Nat):Int):=IntWalk.u64_in _ (by omega)
 refine con_of follows_mixed Try.func73 rfl (by simp only [List.length_cons,List.length_nil,Try.ntmps73];omega) V215 rfl ?_
 refine Exec.reg ?_
 iterate 3 (refine Run.o1 V204 ?_)
 refine Run.nil ?_
 refine Exec.reg1 ?_
 iterate 3 (refine Run.o1 V204 ?_)
 refine Run.o1 (by simp only [go_sem,hu];(try simp (disch:=omega) only [IntWalk.i64_in,IntWalk.u64_in,IntWalk.i32_in,IntWalk.u8_in,if_neg,if_pos])<;> rfl) ?_
 refine Run.c1 (c_Len l.length hn) V204 V204 ?_
 refine Run.o1 V204 ?_
 refine Run.lendA 900 900 (c_pdqsort_Point c hg hc l hn (lenB l.length)) (by simp [len_isortE]) V210 V208 V204 V204 (by exact ⟨by first|exact WkR.pure rfl|exact WkR.of rfl rfl|exact WkR.nil _|exact WkR.int V179,by first|exact WkR.pure rfl|exact WkR.of rfl rfl|exact WkR.nil _|exact WkR.int V179,by first|exact WkR.pure rfl|exact WkR.of rfl rfl|exact WkR.nil _|exact WkR.int V179,by first|exact WkR.pure rfl|exact WkR.of rfl rfl|exact WkR.nil _|exact WkR.int V179,by first|exact WkR.pure rfl|exact WkR.of rfl rfl|exact WkR.nil _|exact WkR.int V179,trivial⟩) V204 ?_
 refine Run.nil ?_
 exact Ends.fin0 [900] (rs:=[]) rfl V204 (by simp only [go_sem,hu]<;>first|rfl|exact eqz)
end Go.Mw
namespace Go.Mw
open Go.Proofs
open Go.Li
def SB (s:Go.Li.Span):Prop:=(-1000≤s.lo∧s.lo≤1000)∧-1000≤s.hi∧s.hi≤1000
theorem mulN {a b A B:Int}(ha:0≤a∧a≤A)(hb:0≤b∧b≤B):0≤a*b∧a*b≤A*B:=⟨Int.mul_nonneg ha.1 hb.1,Int.mul_le_mul ha.2 hb.2 hb.1 (by omega)⟩
theorem downI_lt {n:Int}(h:n<0):downI n=-((999-n) / 1000):=by
 unfold downI
 rw [if_pos h,Int.tdiv_eq_ediv_of_nonneg (by omega)]
theorem downI_nn {n:Int}(h:¬n<0):downI n=n / 1000:=by
 unfold downI
 rw [if_neg h,Int.tdiv_eq_ediv_of_nonneg (by omega)]
theorem downI_bd (n:Int)(h:-1000000000000000≤n∧n≤1000000000000000):-1000000000000000≤downI n∧downI n≤1000000000000000:=by
 by_cases h0:n<0
 ·rw [downI_lt h0];omega
 ·rw [downI_nn h0];omega
theorem prodI_snoc (l:List Int)(x:Int):prodI (l++[x])=prodI l*x:=by unfold prodI;rw [List.foldl_append];rfl
theorem take_snoc {α:Type}{l:List α}{k:Nat}{x:α}(h:l[k]? = some x):l.take (k+1)=l.take k++[x]:=by rw [List.take_add_one,h];rfl
theorem c_both (a b:Go.Li.Span):Contract Try.prog 56 [spV a,spV b] (spV (both a b)) []:=by
 refine con_of follows_mixed Try.func56 rfl (by simp only [List.length_cons,List.length_nil,Try.ntmps56];omega) V215 rfl ?_
 refine Exec.reg ?_
 iterate 3 (refine Run.o1 (by simp only [go_sem,pick_max,pick_min,both]<;>rfl) ?_)
 refine Run.nil ?_
 refine Exec.reg ?_
 iterate 12 (refine Run.o1 (by simp only [go_sem,pick_max,pick_min,both]<;>rfl) ?_)
 refine Run.nil ?_
 exact Ends.fin [] (rs:=[.cell 4 40]) rfl (by simp only [go_sem,pick_max,pick_min,both]<;>rfl) (by simp only [go_sem,pick_max,pick_min,both]<;>first|rfl|exact eqz)
theorem c_rise (st:Int)(ps:List Pt)(s:Go.Li.Span)(a b:Int)(hst:0≤st∧st≤1000)(hs:SB s)(ha:-100000≤a∧a≤100000)(hb:-100000≤b∧b≤100000)(hd:0≤b-a):Contract Try.prog 75 [.leaf (.d (chP st ps)),spV s,.int a,.int b] (spV ⟨s.lo,s.hi+st*(b-a)⟩) []:=by
 have m:=mulN hst (b:=b-a) (B:=200000) (by omega)
 obtain ⟨⟨s1,s2⟩,s3,s4⟩:=hs
 refine con_of follows_mixed Try.func75 rfl (by simp only [List.length_cons,List.length_nil,Try.ntmps75];omega) V215 rfl ?_
 refine Exec.reg ?_
 iterate 2 (refine Run.o ?_)
 refine Run.nil ?_
 refine Exec.opk 17 ?_
 iterate 10 (refine OpenK.o ?_)
 iterate 3 (refine OpenK.o1 V91 ?_)
 iterate 2 (refine OpenK.o ?_)
 refine OpenK.nil (OpenE.fin V212 V212 ?_)
 exact Ends.fin [] (rs:=[.cell 8 40]) rfl V208 V171
theorem c_fall (st:Int)(ps:List Pt)(s:Go.Li.Span)(a b:Int)(hst:0≤st∧st≤1000)(hs:SB s)(ha:-100000≤a∧a≤100000)(hb:-100000≤b∧b≤100000)(hd:0≤a-b):Contract Try.prog 55 [.leaf (.d (chP st ps)),spV s,.int a,.int b] (spV ⟨s.lo-st*(a-b),s.hi⟩) []:=by
 have m:=mulN hst (b:=a-b) (B:=200000) (by omega)
 obtain ⟨⟨s1,s2⟩,s3,s4⟩:=hs
 refine con_of follows_mixed Try.func55 rfl (by simp only [List.length_cons,List.length_nil,Try.ntmps55];omega) V215 rfl ?_
 refine Exec.reg ?_
 iterate 2 (refine Run.o ?_)
 refine Run.nil ?_
 refine Exec.opk 17 ?_
 iterate 8 (refine OpenK.o ?_)
 iterate 3 (refine OpenK.o1 V91 ?_)
 iterate 4 (refine OpenK.o ?_)
 refine OpenK.nil (OpenE.fin V212 V212 ?_)
 exact Ends.fin [] (rs:=[.cell 8 40]) rfl V208 V171
theorem c_still:Contract Try.prog 27 [] (spV stillS) []:=by
 refine con_of follows_mixed Try.func27 rfl (by simp only [List.length_cons,List.length_nil,Try.ntmps27];omega) V215 rfl ?_
 refine Exec.reg ?_
 refine Run.o1 (by simp only [go_sem,stillS]<;>rfl) ?_
 refine Run.nil ?_
 refine Exec.reg ?_
 iterate 2 (refine Run.o1 (by simp only [go_sem,stillS]<;>rfl) ?_)
 refine Run.nil ?_
 exact Ends.fin [] (rs:=[.cell 0 40]) rfl (by simp only [go_sem,stillS]<;>rfl) (by simp only [go_sem,stillS]<;>first|rfl|exact eqz)
theorem c_free:Contract Try.prog 72 [] (spV Go.Li.free) []:=by
 refine con_of follows_mixed Try.func72 rfl (by simp only [List.length_cons,List.length_nil,Try.ntmps72];omega) V215 rfl ?_
 refine Exec.reg ?_
 refine Run.o1 (by simp only [go_sem,Go.Li.free]<;>rfl) ?_
 refine Run.nil ?_
 refine Exec.reg ?_
 iterate 2 (refine Run.o1 (by simp only [go_sem,Go.Li.free]<;>rfl) ?_)
 refine Run.nil ?_
 exact Ends.fin [] (rs:=[.cell 0 40]) rfl (by simp only [go_sem,Go.Li.free]<;>rfl) (by simp only [go_sem,Go.Li.free]<;>first|rfl|exact eqz)
theorem c_widen (a b:Go.Li.Span)(first:Bool):Contract Try.prog 45 [spV a,spV b,.bool first] (spV (widen a b first)) []:=by
 cases first
 ·skip
  have hr:widen a b false=⟨min a.lo b.lo,max a.hi b.hi⟩:=rfl
  refine con_of follows_mixed Try.func45 rfl (by simp only [List.length_cons,List.length_nil,Try.ntmps45];omega) V215 rfl ?_
  refine Exec.reg ?_
  iterate 3 (refine Run.o1 V162 ?_)
  refine Run.nil ?_
  refine Exec.opk 8 ?_
  iterate 6 (refine OpenK.o1 V162 ?_)
  refine OpenK.nil (OpenE.fin V212 V212 ?_)
  refine Exec.assocS ?_
  refine Exec.reg ?_
  refine Run.o1 V162 ?_
  refine Run.nil ?_
  refine Exec.cndS V162 (fun hb11=>?_) (fun hb11=>?_)
  ·exact absurd hb11 (by simp)
  ·skip
   refine Exec.skipS ?_
   refine Exec.reg ?_
   iterate 12 (refine Run.o1 V162 ?_)
   refine Run.nil ?_
   exact Ends.fin [] (rs:=[.cell 6 40]) rfl V162 (by simp only [go_sem,hr,pick_min,pick_max]<;>first|rfl|exact eqz)
 ·skip
  have hr:widen a b true=b:=rfl
  refine con_of follows_mixed Try.func45 rfl (by simp only [List.length_cons,List.length_nil,Try.ntmps45];omega) V215 rfl ?_
  refine Exec.reg ?_
  iterate 3 (refine Run.o1 V202 ?_)
  refine Run.nil ?_
  refine Exec.opk 8 ?_
  iterate 6 (refine OpenK.o1 V202 ?_)
  refine OpenK.nil (OpenE.fin V212 V212 ?_)
  refine Exec.assocS ?_
  refine Exec.reg ?_
  refine Run.o1 V202 ?_
  refine Run.nil ?_
  refine Exec.cndS V202 (fun hb11=>?_) (fun hb11=>?_)
  ·skip
   refine Exec.assocS ?_
   refine Exec.reg ?_
   iterate 2 (refine Run.o1 V202 ?_)
   refine Run.nil ?_
   refine Exec.retS ?_
   exact Ends.fin [] (rs:=[.cell 6 40]) rfl V202 V161
  ·exact absurd hb11 (by simp)
theorem c_down (n:Int)(h:-1000000000000000≤n∧n≤1000000000000000):Contract Try.prog 48 [.int n] (.int (downI n)) []:=by
 refine con_of follows_mixed Try.func48 rfl (by simp only [List.length_cons,List.length_nil,Try.ntmps48];omega) V215 rfl ?_
 refine Exec.reg ?_
 refine Run.o ?_
 refine Run.nil ?_
 refine Exec.assocS ?_
 refine Exec.reg ?_
 iterate 2 (refine Run.o ?_)
 refine Run.nil ?_
 refine Exec.cndS V208 (fun hb4=>?_) (fun hb4=>?_)
 ·skip
  have h0:n<0:=of_decide_eq_true hb4
  have hr:=downI_lt h0
  have e1:(999-n).tdiv 1000=(999-n) / 1000:=Int.tdiv_eq_ediv_of_nonneg (by omega)
  refine Exec.assocS ?_
  refine Exec.reg ?_
  refine Run.o1 V197 ?_
  iterate 3 (refine Run.o1 V79 ?_)
  refine Run.o1 V197 ?_
  refine Run.nil ?_
  refine Exec.retS ?_
  exact Ends.fin [] (rs:=[.tmp 2]) rfl V197 (by simp only [go_sem,hr,e1]<;>first|rfl|exact eqz)
 ·skip
  have h0:¬n<0:=of_decide_eq_false hb4
  have hr:=downI_nn h0
  have e1:n.tdiv 1000=n / 1000:=Int.tdiv_eq_ediv_of_nonneg (by omega)
  refine Exec.skipS ?_
  refine Exec.reg ?_
  refine Run.o1 V197 ?_
  refine Run.o1 V79 ?_
  refine Run.o1 V197 ?_
  refine Run.nil ?_
  exact Ends.fin [] (rs:=[.tmp 2]) rfl V197 (by simp only [go_sem,hr,e1]<;>first|rfl|exact eqz)
theorem c_up (n:Int)(h:-1000000000000000≤n∧n≤1000000000000000):Contract Try.prog 49 [.int n,.leaf (.d (.pt [.fn 48 []]))] (.int (upI n)) []:=by
 have hd:=downI_bd (-n) (by omega)
 have hr:upI n=-downI (-n):=rfl
 refine con_of follows_mixed Try.func49 rfl (by simp only [List.length_cons,List.length_nil,Try.ntmps49];omega) V215 rfl ?_
 refine Exec.reg ?_
 refine Run.o1 V202 ?_
 refine Run.nil ?_
 refine Exec.reg ?_
 iterate 2 (refine Run.o1 V202 ?_)
 refine Run.o1 V85 ?_
 refine Run.calw V208 (c_down (-n) (by omega)) V210 V202 V202 V96 (fr0) V202 ?_
 refine Run.o1 V85 ?_
 refine Run.o1 V202 ?_
 refine Run.nil ?_
 exact Ends.fin [] (rs:=[.tmp 3]) rfl V202 V161
theorem c_of0 (s:Go.Li.Span):Contract Try.prog 50 [spV s] (.int s.lo) []:=by
 refine con_of follows_mixed Try.func50 rfl (by simp only [List.length_cons,List.length_nil,Try.ntmps50];omega) V215 rfl ?_
 refine Exec.reg ?_
 iterate 2 (refine Run.o ?_)
 refine Run.nil ?_
 refine Exec.reg ?_
 iterate 3 (refine Run.o ?_)
 refine Run.nil ?_
 exact Ends.fin [] (rs:=[.tmp 2]) rfl V208 V171
theorem c_of1 (s:Go.Li.Span):Contract Try.prog 52 [spV s] (.int s.hi) []:=by
 refine con_of follows_mixed Try.func52 rfl (by simp only [List.length_cons,List.length_nil,Try.ntmps52];omega) V215 rfl ?_
 refine Exec.reg ?_
 iterate 2 (refine Run.o ?_)
 refine Run.nil ?_
 refine Exec.reg ?_
 iterate 3 (refine Run.o ?_)
 refine Run.nil ?_
 exact Ends.fin [] (rs:=[.tmp 2]) rfl V208 V171
theorem c_far0 (a b:Int):Contract Try.prog 51 [.int a,.int b] (.bool (decide (a<b))) []:=by
 refine con_of follows_mixed Try.func51 rfl (by simp only [List.length_cons,List.length_nil,Try.ntmps51];omega) V215 rfl ?_
 refine Exec.reg ?_
 refine Run.o ?_
 refine Run.nil ?_
 refine Exec.reg ?_
 iterate 4 (refine Run.o ?_)
 refine Run.nil ?_
 exact Ends.fin [] (rs:=[.tmp 4]) rfl V208 V171
theorem c_far1 (a b:Int):Contract Try.prog 53 [.int a,.int b] (.bool (decide (a>b))) []:=by
 refine con_of follows_mixed Try.func53 rfl (by simp only [List.length_cons,List.length_nil,Try.ntmps53];omega) V215 rfl ?_
 refine Exec.reg ?_
 refine Run.o ?_
 refine Run.nil ?_
 refine Exec.reg ?_
 iterate 4 (refine Run.o ?_)
 refine Run.nil ?_
 exact Ends.fin [] (rs:=[.tmp 4]) rfl V208 V171
abbrev endsV:AV:=.val true [.d (.fn 50 []),.d (.fn 51 []),.d (.fn 48 []),.d (.fn 52 []),.d (.fn 53 []),.d (.fn 49 [.pt [.fn 48 []]])]
theorem c_ends:Contract Try.prog 25 [] endsV []:=by
 refine con_of follows_mixed Try.func25 rfl (by simp only [List.length_cons,List.length_nil,Try.ntmps25];omega) V215 rfl ?_
 refine Exec.reg ?_
 refine Run.o ?_
 refine Run.nil ?_
 refine Exec.reg ?_
 iterate 2 (refine Run.o ?_)
 refine Run.nil ?_
 refine Exec.reg ?_
 refine Run.frz 1 V208 ?_
 iterate 2 (refine Run.o ?_)
 refine Run.nil ?_
 refine Exec.reg ?_
 iterate 6 (refine Run.o ?_)
 refine Run.nil ?_
 exact Ends.fin [] (rs:=[.cell 0 83]) rfl V208 V171
theorem c_product (l:List Int)(h:∀x∈l,6≤x∧x≤100)(hn:l.length≤3):Contract Try.prog 58 [.leaf (.d (intsD l))] (.int (prodI l)) []:=by
 have hz:prodI []=1:=rfl
 refine con_of follows_mixed Try.func58 rfl (by simp only [List.length_cons,List.length_nil,Try.ntmps58];omega) V215 rfl ?_
 refine Exec.reg ?_
 refine Run.o ?_
 refine Run.nil ?_
 refine Exec.reg ?_
 refine Run.o ?_
 refine Run.nil ?_
 refine Exec.assocS ?_
 refine Exec.reg ?_
 iterate 3 (refine Run.o ?_)
 refine Run.nil ?_
 refine Exec.blk ?_
 refine Exec.forA [3,6,7,8] [] (l.length) (fun k=>[.slot 3 (.int (prodI (l.take k))),.slot 8 (.int k)]) (fun _=>True) (fun k=>by simp only [go_sem]<;>rfl) (by simp only [go_sem,Int.natCast_zero,List.take_zero,hz]<;>rfl) ?_ (fun k hk hX=>?_)
 ·trivial
 ·skip
  refine Exec.reg ?_
  refine Run.o ?_
  refine Run.nil ?_
  refine Exec.cndS V208 (fun hb9=>?_) (fun hb9=>?_)
  ·skip
   have hlt:=lt_of_dec hb9
   obtain ⟨x,hx⟩:=elem_of hb9
   have ht:prodI (l.take (k+1))=prodI (l.take k)*x:=by rw [take_snoc hx,prodI_snoc]
   have hb:=prodI_bd (l.take k) fun y hy=>h y (List.mem_of_mem_take hy)
   have hp:=pow100_le (n:=(l.take k).length) (by rw [List.length_take];omega)
   have hx1:=h x (List.mem_of_getElem? hx)
   have m:=mulN (a:=prodI (l.take k)) (b:=x) (A:=1000000) (B:=100) (by omega) (by omega)
   refine Exec.skipS ?_
   refine Exec.blk ?_
   refine Exec.reg ?_
   refine Run.o1 (by simp only [go_sem,hx,ht];(try simp (disch:=omega) only [if_pos]);(try simp only [go_sem,hx,ht])<;> rfl) ?_
   iterate 2 (refine Run.o1 (by simp only [go_sem,hx,ht]<;>rfl) ?_)
   refine Run.nil ?_
   refine Exec.reg1 ?_
   iterate 2 (refine Run.o1 (by simp only [go_sem,hx,ht]<;>rfl) ?_)
   refine Run.o1 V80 ?_
   refine Run.o1 (by simp only [go_sem,hx,ht]<;>rfl) ?_
   refine Run.nil ?_
   refine BlkK.nrm ?_
   refine Exec.reg1 ?_
   refine Run.o1 V80 ?_
   refine Run.o1 (by simp only [go_sem,hx,ht]<;>rfl) ?_
   refine Run.nil ?_
   refine ForK.nxt ?_ ?_ ?_
   ·omega
   ·exact Ghost.kp [3,6,7,8] [] (by simp only [go_sem,hx,ht]<;>first|exact eqz|rfl)
   ·trivial
  ·skip
   have hke:k=l.length:=by have:=ge_of_dec hb9;omega
   subst hke
   have e:=List.take_length (l:=l)
   refine Exec.exitS ?_
   refine ForK.ext ?_
   refine BlkK.hit ?_
   refine Exec.reg ?_
   iterate 2 (refine Run.o1 V205 ?_)
   refine Run.nil ?_
   exact Ends.fin [] (rs:=[.tmp 2]) rfl V205 V167
theorem c_products (l:List Pr)(h:TeethOK l)(hn:l.length≤3):Contract Try.prog 34 [.leaf (.d (prsD l))] (tupI [drives l,driven l]) []:=by
 have hda:∀x∈l.map (·.a),6≤x∧x≤100:=fun x hx=>by obtain ⟨p,hp,rfl⟩:=List.mem_map.1 hx;exact (h p hp).1
 have hdb:∀x∈l.map (·.b),6≤x∧x≤100:=fun x hx=>by obtain ⟨p,hp,rfl⟩:=List.mem_map.1 hx;exact (h p hp).2
 have ea:drives l=prodI (l.map (·.a)):=rfl
 have eb:driven l=prodI (l.map (·.b)):=rfl
 refine con_of follows_mixed Try.func34 rfl (by simp only [List.length_cons,List.length_nil,Try.ntmps34];omega) V215 rfl ?_
 refine Exec.reg ?_
 iterate 2 (refine Run.o ?_)
 refine Run.nil ?_
 refine Exec.reg ?_
 iterate 2 (refine Run.o ?_)
 refine Run.nil ?_
 refine Exec.assocS ?_
 refine Exec.reg ?_
 refine Run.nilo 4 1000 3 1 V208 V208 (by omega) (by omega) V208 ?_
 refine Run.nilo 5 1001 3 1 V208 V208 (by omega) (by omega) V208 ?_
 iterate 3 (refine Run.o ?_)
 refine Run.nil ?_
 refine Exec.blk ?_
 refine Exec.forA [4,5,8,9,10] [1000,1001] (l.length) (fun k=>[.slot 4 (.leaf (.own 1000 0 k k)),.obj 1000 (.arr 3 1 ((l.take k).map fun p=>[.i p.a])),.slot 5 (.leaf (.own 1001 0 k k)),.obj 1001 (.arr 3 1 ((l.take k).map fun p=>[.i p.b])),.slot 10 (.int k)]) (fun _=>True) (fun k=>by simp only [go_sem]<;>rfl) (by simp only [go_sem,Int.natCast_zero,List.take_zero,List.map_nil]<;>rfl) ?_ (fun k hk hX=>?_)
 ·trivial
 ·skip
  refine Exec.reg ?_
  refine Run.o ?_
  refine Run.nil ?_
  refine Exec.cndS V208 (fun hb11=>?_) (fun hb11=>?_)
  ·skip
   have hlt:=lt_of_dec hb11
   obtain ⟨x,hx⟩:=elem_of hb11
   have ht:=take_snoc hx
   have hl:(l.take k).length=k:=by rw [List.length_take];omega
   refine Exec.skipS ?_
   refine Exec.blk ?_
   refine Exec.reg ?_
   refine Run.o1 (by simp only [go_sem,hx,hl,ht,List.map_append,List.map_cons,List.map_nil];(try simp (disch:=omega) only [if_pos]);(try simp only [go_sem,hx,hl,ht,List.map_append,List.map_cons,List.map_nil])<;> rfl) ?_
   iterate 3 (refine Run.o1 V129 ?_)
   refine Run.nil ?_
   refine Exec.opk1 14 ?_
   iterate 4 (refine OpenK.o1 V129 ?_)
   refine OpenK.o1 V3 ?_
   iterate 4 (refine OpenK.o1 V129 ?_)
   refine OpenK.o1 V3 ?_
   iterate 2 (refine OpenK.o1 V129 ?_)
   refine OpenK.nil (OpenE.fin V212 V212 ?_)
   refine BlkK.nrm ?_
   refine Exec.reg1 ?_
   refine Run.o1 (by simp only [go_sem,hx,hl,ht,List.map_append,List.map_cons,List.map_nil];(try simp (disch:=omega) only [IntWalk.i64_in,IntWalk.u64_in,IntWalk.i32_in,IntWalk.u8_in,if_neg,if_pos])<;> rfl) ?_
   refine Run.o1 V129 ?_
   refine Run.nil ?_
   refine ForK.nxt ?_ ?_ ?_
   ·omega
   ·exact Ghost.kp [4,5,8,9,10] [1000,1001] (by simp only [go_sem,hx,hl,ht,List.map_append,List.map_cons,List.map_nil]<;>first|exact eqz|rfl)
   ·trivial
  ·skip
   have hke:k=l.length:=by have:=ge_of_dec hb11;omega
   subst hke
   have hta:List.take l.length (List.map (fun p=>[D.i p.a]) l)=(l.map (·.a)).map encInt:=by rw [List.take_of_length_le (by simp),List.map_map];rfl
   have htb:List.take l.length (List.map (fun p=>[D.i p.b]) l)=(l.map (·.b)).map encInt:=by rw [List.take_of_length_le (by simp),List.map_map];rfl
   refine Exec.exitS ?_
   refine ForK.ext ?_
   refine BlkK.hit ?_
   refine Exec.reg ?_
   refine Run.frz 1000 V200 ?_
   refine Run.frz 1001 (by simp only [go_sem,htb]<;>rfl) ?_
   refine Run.o1 V198 ?_
   refine Run.c1 (c_product (l.map (·.a)) hda (by rw [List.length_map];exact hn)) V198 V198 ?_
   refine Run.o1 V198 ?_
   refine Run.c1 (c_product (l.map (·.b)) hdb (by rw [List.length_map];exact hn)) V198 V198 ?_
   iterate 2 (refine Run.o1 V198 ?_)
   refine Run.nil ?_
   exact Ends.fin [] (rs:=[.tmp 2,.tmp 3]) rfl V198 (by simp only [go_sem,ea,eb]<;>first|rfl|exact eqz)
end Go.Mw
namespace Go.Mw
open Go.Proofs
open Go.Li
theorem gearB_bd {g:Gr}(h:gearB g=true):(1≤g.turns∧g.turns≤1000)∧(1≤g.rounds∧g.rounds≤1000)∧(0≤g.pairs∧g.pairs≤3)∧0≤g.room∧g.room≤200:=by
 unfold gearB at h
 simp only [Bool.and_eq_true,decide_eq_true_eq] at h
 omega
theorem c_excess (g:Gr)(hg:gearB g=true)(ks:List Int)(v:Value)(t:Tr)(h:TeethOK t.ps)(hn:t.ps.length≤3):Contract Try.prog 16 [.leaf (.d (tkP g ks v)),trV t] (tupI [excess g t,driven t.ps*g.rounds]) []:=by
 obtain ⟨g1,g2,g3,g4⟩:=gearB_bd hg
 have d1:=drives_bd h hn
 have d2:=driven_bd h hn
 have m1:=mulN (a:=drives t.ps) (b:=g.turns) (A:=1000000) (B:=1000) (by omega) (by omega)
 have m2:=mulN (a:=driven t.ps) (b:=g.rounds) (A:=1000000) (B:=1000) (by omega) (by omega)
 have e:excess g t=drives t.ps*g.turns-driven t.ps*g.rounds:=rfl
 refine con_of follows_mixed Try.func16 rfl (by simp only [List.length_cons,List.length_nil,Try.ntmps16];omega) V215 rfl ?_
 refine Exec.reg ?_
 iterate 3 (refine Run.o1 V205 ?_)
 refine Run.nil ?_
 refine Exec.reg ?_
 iterate 2 (refine Run.o1 V205 ?_)
 refine Run.c1 (c_products t.ps h hn) V205 V205 ?_
 iterate 5 (refine Run.o1 V205 ?_)
 refine Run.nil ?_
 refine Exec.reg ?_
 iterate 6 (refine Run.o1 V205 ?_)
 refine Run.o1 V87 ?_
 refine Run.o1 V205 ?_
 refine Run.nil ?_
 refine Exec.reg ?_
 iterate 6 (refine Run.o1 V205 ?_)
 refine Run.o1 V87 ?_
 refine Run.o1 V205 ?_
 refine Run.o1 V87 ?_
 iterate 3 (refine Run.o1 V205 ?_)
 refine Run.nil ?_
 exact Ends.fin [] (rs:=[.tmp 4,.tmp 5]) rfl V205 V167
def meshI (t:Tr):Int:=if t.idler≠0 then t.ps.length+1 else t.ps.length
theorem mesh_w (t:Tr):wheelsOf t=meshI t+t.ps.length:=by unfold wheelsOf meshI;split<;>rfl
theorem c_meshes (t:Tr)(hn:t.ps.length≤1000):Contract Try.prog 39 [trV t] (.int (meshI t)) []:=by
 refine con_of follows_mixed Try.func39 rfl (by simp only [List.length_cons,List.length_nil,Try.ntmps39];omega) V215 rfl ?_
 refine Exec.reg ?_
 iterate 2 (refine Run.o ?_)
 refine Run.nil ?_
 refine Exec.assocS ?_
 refine Exec.reg ?_
 iterate 3 (refine Run.o ?_)
 refine Run.nil ?_
 refine Exec.cndS V208 (fun hb5=>?_) (fun hb5=>?_)
 ·skip
  have h0:t.idler≠0:=by simpa using hb5
  have hr:meshI t=t.ps.length+1:=if_pos h0
  refine Exec.assocS ?_
  refine Exec.reg ?_
  iterate 3 (refine Run.o1 V202 ?_)
  refine Run.o1 V85 ?_
  refine Run.o1 V202 ?_
  refine Run.nil ?_
  refine Exec.retS ?_
  exact Ends.fin [] (rs:=[.tmp 2]) rfl V202 V161
 ·skip
  have h0:¬t.idler≠0:=by simpa using hb5
  have hr:meshI t=t.ps.length:=if_neg h0
  refine Exec.skipS ?_
  refine Exec.reg ?_
  iterate 4 (refine Run.o1 V202 ?_)
  refine Run.nil ?_
  exact Ends.fin [] (rs:=[.tmp 2]) rfl V202 V161
theorem c_wheels (t:Tr)(hn:t.ps.length≤1000):Contract Try.prog 17 [trV t] (.int (wheelsOf t)) []:=by
 have hm:0≤meshI t∧meshI t≤1001:=by unfold meshI;split<;>omega
 rw [mesh_w]
 refine con_of follows_mixed Try.func17 rfl (by simp only [List.length_cons,List.length_nil,Try.ntmps17];omega) V215 rfl ?_
 refine Exec.reg ?_
 iterate 2 (refine Run.o ?_)
 refine Run.nil ?_
 refine Exec.opk 9 ?_
 refine OpenK.o ?_
 refine OpenK.cal (c_meshes t hn) V210 V208 V96 (fr0) V208 V208 V208 ?_
 iterate 3 (refine OpenK.o ?_)
 refine OpenK.o1 V91 ?_
 refine OpenK.o ?_
 refine OpenK.nil (OpenE.fin V212 V212 ?_)
 exact Ends.fin [] (rs:=[.tmp 2]) rfl V208 V171
theorem c_isNaN (n:Int):Contract Try.prog 94 [.int n] (.bool false) []:=by
 refine con_of follows_mixed Try.func94 rfl (by simp only [List.length_cons,List.length_nil,Try.ntmps94];omega) V215 rfl ?_
 refine Exec.reg ?_
 refine Run.o1 (by simp only [go_sem,bne_self_eq_false]<;>rfl) ?_
 refine Run.nil ?_
 refine Exec.reg ?_
 iterate 4 (refine Run.o1 (by simp only [go_sem,bne_self_eq_false]<;>rfl) ?_)
 refine Run.nil ?_
 exact Ends.fin [] (rs:=[.tmp 2]) rfl (by simp only [go_sem,bne_self_eq_false]<;>rfl) (by simp only [go_sem,bne_self_eq_false]<;>first|rfl|exact eqz)
theorem c_Compare (a b:Int):Contract Try.prog 83 [.int a,.int b] (.int (Go.Li.cmpI a b)) []:=by
 refine con_of follows_mixed Try.func83 rfl (by simp only [List.length_cons,List.length_nil,Try.ntmps83];omega) V215 rfl ?_
 refine Exec.reg ?_
 refine Run.o ?_
 refine Run.nil ?_
 refine Exec.reg ?_
 refine Run.o ?_
 refine Run.c1 (c_isNaN _) V208 V208 ?_
 refine Run.o ?_
 refine Run.nil ?_
 refine Exec.reg ?_
 refine Run.o ?_
 refine Run.c1 (c_isNaN _) V208 V208 ?_
 refine Run.o ?_
 refine Run.nil ?_
 refine Exec.assocS ?_
 refine Exec.reg ?_
 refine Run.o ?_
 refine Run.nil ?_
 refine Exec.cndS V208 (fun hb11=>?_) (fun hb11=>?_)
 ·exact absurd hb11 (by simp)
 ·skip
  refine Exec.skipS ?_
  refine Exec.assocS ?_
  refine Exec.reg ?_
  refine Run.o ?_
  refine Run.nil ?_
  refine Exec.cndS V208 (fun hb13=>?_) (fun hb13=>?_)
  ·exact absurd hb13 (by simp)
  ·skip
   refine Exec.skipS ?_
   refine Exec.assocS ?_
   refine Exec.reg ?_
   iterate 3 (refine Run.o ?_)
   refine Run.nil ?_
   refine Exec.cndS V208 (fun hb16=>?_) (fun hb16=>?_)
   ·skip
    have hr:Go.Li.cmpI a b=-1:=if_pos (of_decide_eq_true hb16)
    refine Exec.assocS ?_
    refine Exec.reg ?_
    refine Run.o1 V202 ?_
    refine Run.nil ?_
    refine Exec.retS ?_
    exact Ends.fin [] (rs:=[.tmp 4]) rfl V202 V161
   ·skip
    refine Exec.skipS ?_
    refine Exec.assocS ?_
    refine Exec.reg ?_
    iterate 3 (refine Run.o ?_)
    refine Run.nil ?_
    refine Exec.cndS V208 (fun hb19=>?_) (fun hb19=>?_)
    ·skip
     have hr:Go.Li.cmpI a b=1:=by have h1:=of_decide_eq_false hb16;have h2:=of_decide_eq_true hb19;rw [Go.Li.cmpI,if_neg h1,if_pos h2]
     refine Exec.assocS ?_
     refine Exec.reg ?_
     refine Run.o1 V202 ?_
     refine Run.nil ?_
     refine Exec.retS ?_
     exact Ends.fin [] (rs:=[.tmp 4]) rfl V202 V161
    ·skip
     have hr:Go.Li.cmpI a b=0:=by have h1:=of_decide_eq_false hb16;have h2:=of_decide_eq_false hb19;rw [Go.Li.cmpI,if_neg h1,if_neg h2]
     refine Exec.skipS ?_
     refine Exec.reg ?_
     refine Run.o1 V202 ?_
     refine Run.nil ?_
     exact Ends.fin [] (rs:=[.tmp 4]) rfl V202 V161
def orI (l:List Int):Int:=(l.find? (fun x=>x != 0)).getD 0
theorem orI_at {l:List Int}{k:Nat}{x:Int}(h:(l.take k).any (fun x=>x != 0)=false)(hx:l[k]? = some x)(h0:x≠0):orI l=x:=by
 unfold orI
 have hl:l=l.take k++x::l.drop (k+1):=by
  obtain ⟨hk,rfl⟩:=List.getElem?_eq_some_iff.1 hx
  rw [←List.drop_eq_getElem_cons hk,List.take_append_drop]
 rw [hl,List.find?_append]
 have hn:(l.take k).find? (fun x=>x != 0)=none:=by
  rw [List.find?_eq_none]
  intro y hy
  have:=List.any_eq_false.1 h y hy
  exact this
 rw [hn]
 simp [h0]
theorem orI_none {l:List Int}(h:l.any (fun x=>x != 0)=false):orI l=0:=by
 unfold orI
 have hn:l.find? (fun x=>x != 0)=none:=by
  rw [List.find?_eq_none]
  intro y hy
  exact List.any_eq_false.1 h y hy
 rw [hn];rfl
theorem c_Or (l:List Int)(hl:l.length≤1000):Contract Try.prog 82 [.leaf (.d (intsD l))] (.int (orI l)) []:=by
 refine con_of follows_mixed Try.func82 rfl (by simp only [List.length_cons,List.length_nil,Try.ntmps82];omega) V215 rfl ?_
 refine Exec.reg ?_
 refine Run.o ?_
 refine Run.nil ?_
 refine Exec.reg ?_
 refine Run.o ?_
 refine Run.nil ?_
 refine Exec.assocS ?_
 refine Exec.reg ?_
 iterate 3 (refine Run.o ?_)
 refine Run.nil ?_
 refine Exec.blk ?_
 refine Exec.forA [3,6,7,8] [] (l.length) (fun k=>[.slot 8 (.int k)]) (fun k=>(l.take k).any (fun x=>x != 0)=false) (fun k=>by simp only [go_sem]<;>rfl) V180 ?_ (fun k hk hX=>?_)
 ·rfl
 ·skip
  refine Exec.reg ?_
  refine Run.o ?_
  refine Run.nil ?_
  refine Exec.cndS V208 (fun hb9=>?_) (fun hb9=>?_)
  ·skip
   have hlt:=lt_of_dec hb9
   obtain ⟨x,hx⟩:=elem_of hb9
   refine Exec.skipS ?_
   refine Exec.blk ?_
   refine Exec.reg ?_
   refine Run.o1 (by simp only [go_sem,hx];(try simp (disch:=omega) only [if_pos]);(try simp only [go_sem,hx])<;> rfl) ?_
   iterate 2 (refine Run.o1 (by simp only [go_sem,hx]<;>rfl) ?_)
   refine Run.nil ?_
   refine Exec.reg ?_
   iterate 3 (refine Run.o1 (by simp only [go_sem,hx]<;>rfl) ?_)
   refine Run.nil ?_
   refine Exec.cnd (by simp only [go_sem,hx]<;>rfl) (fun hb14=>?_) (fun hb14=>?_)
   ·skip
    have hr:=orI_at hX hx (by simpa using hb14)
    refine Exec.reg ?_
    iterate 2 (refine Run.o1 (by simp only [go_sem,hx,hr]<;>rfl) ?_)
    refine Run.nil ?_
    refine BlkK.ret ?_
    refine ForK.ret ?_
    refine BlkK.ret ?_
    exact Ends.fin [] (rs:=[.tmp 2]) rfl (by simp only [go_sem,hx,hr]<;>rfl) (by simp only [go_sem,hx,hr]<;>first|rfl|exact eqz)
   ·skip
    refine BlkK.nrm ?_
    refine Exec.reg1 ?_
    refine Run.o1 (by simp only [go_sem,hx];(try simp (disch:=omega) only [IntWalk.i64_in,IntWalk.u64_in,IntWalk.i32_in,IntWalk.u8_in,if_neg,if_pos])<;> rfl) ?_
    refine Run.o1 (by simp only [go_sem,hx]<;>rfl) ?_
    refine Run.nil ?_
    refine ForK.nxt ?_ ?_ ?_
    ·omega
    ·exact Ghost.kp [3,6,7,8] [] (by simp only [go_sem,hx]<;>first|exact eqz|rfl)
    ·exact any_step hX hx hb14
  ·skip
   have hke:=ge_of_dec hb9
   have hr:=orI_none (l:=l) (by rw [List.take_of_length_le hke] at hX;exact hX)
   refine Exec.exitS ?_
   refine ForK.ext ?_
   refine BlkK.hit ?_
   refine Exec.reg ?_
   iterate 2 (refine Run.o1 V202 ?_)
   refine Run.nil ?_
   exact Ends.fin [] (rs:=[.tmp 2]) rfl V202 V161
theorem orI_two (p q:Pr):orI [Go.Li.cmpI p.a q.a,Go.Li.cmpI p.b q.b]=cmpP p q:=by
 unfold orI cmpP
 by_cases h:Go.Li.cmpI p.a q.a=0
 ·rw [if_neg (by simpa using h)]
  by_cases h2:Go.Li.cmpI p.b q.b=0
  ·simp [h,h2]
  ·simp [h,h2]
 ·rw [if_pos h];simp [h]
theorem c_compare (p q:Pr):Contract Try.prog 79 [prV p,prV q] (.int (cmpP p q)) []:=by
 rw [←orI_two]
 refine con_of follows_mixed Try.func79 rfl (by simp only [List.length_cons,List.length_nil,Try.ntmps79];omega) V215 rfl ?_
 refine Exec.reg ?_
 iterate 3 (refine Run.o ?_)
 refine Run.nil ?_
 refine Exec.opk 15 ?_
 iterate 4 (refine OpenK.o ?_)
 refine OpenK.cal (c_Compare p.a q.a) V210 V208 V31 (fr0) V208 V208 V208 ?_
 iterate 4 (refine OpenK.o ?_)
 refine OpenK.cal (c_Compare p.b q.b) V210 V208 V31 (fr0) V208 V208 V208 ?_
 refine OpenK.bfz V208 V208 (by rfl) (by simp) V208 V208 ?_
 refine OpenK.cal (c_Or [Go.Li.cmpI p.a q.a,Go.Li.cmpI p.b q.b] (by simp)) V210 V208 V96 (fr0) V208 V208 V208 ?_
 refine OpenK.o ?_
 refine OpenK.nil (OpenE.fin V212 V212 ?_)
 exact Ends.fin [] (rs:=[.tmp 4]) rfl V208 V171
theorem c_IndexFunc_Pr {g:FuncId}{ds:List D}(p:Pr→Bool)(hg:canCall Try.prog g=true)(l:List Pr)(hl:l.length≤100000)(hp:∀s,s∈l→Contract Try.prog g (prV s::ds.map fun x=>.leaf (.d x)) (.bool (p s)) []):Contract Try.prog 57 [.leaf (.d (.sl 2 (l.map encPr))),.leaf (.d (.fn g ds))] (.int (idxI (l.findIdx? p))) []:=by
 refine con_of follows_mixed Try.func57 rfl (by simp only [List.length_cons,List.length_nil,Try.ntmps57];omega) V215 rfl ?_
 refine Exec.reg ?_
 refine Run.o ?_
 refine Run.nil ?_
 refine Exec.assocS ?_
 refine Exec.reg ?_
 iterate 3 (refine Run.o ?_)
 refine Run.nil ?_
 refine Exec.blk ?_
 refine Exec.forA [0,1,7,8] [] (l.length) (fun k=>[.slot 8 (.int k)]) (fun k=>(l.take k).any p=false) (fun k=>by simp only [go_sem]<;>rfl) V208 ?_ (fun k hk hX=>?_)
 ·rfl
 ·skip
  refine Exec.reg ?_
  refine Run.o ?_
  refine Run.nil ?_
  refine Exec.cndS V208 (fun hb9=>?_) (fun hb9=>?_)
  ·skip
   have hlt:=lt_of_dec hb9
   obtain ⟨s,hs⟩:=elem_of hb9
   refine Exec.skipS ?_
   refine Exec.blk ?_
   refine Exec.reg ?_
   iterate 2 (refine Run.o1 V203 ?_)
   refine Run.nil ?_
   refine Exec.reg ?_
   iterate 3 (refine Run.o1 V203 ?_)
   refine Run.o1 V116 ?_
   refine Run.o1 V203 ?_
   refine Run.calw V208 (hp s (List.mem_of_getElem? hs)) (by assumption) V203 V203 V117 (fr0) V203 ?_
   refine Run.nil ?_
   refine Exec.cnd V203 (fun hb16=>?_) (fun hb16=>?_)
   ·skip
    have hr:=find_at hX hs hb16
    refine Exec.reg ?_
    iterate 2 (refine Run.o1 V186 ?_)
    refine Run.nil ?_
    refine BlkK.ret ?_
    refine ForK.ret ?_
    refine BlkK.ret ?_
    exact Ends.fin [] (rs:=[.tmp 4]) rfl V186 V147
   ·skip
    refine BlkK.nrm ?_
    refine Exec.reg1 ?_
    refine Run.o1 V86 ?_
    refine Run.o1 V203 ?_
    refine Run.nil ?_
    refine ForK.nxt ?_ ?_ ?_
    ·omega
    ·exact Ghost.kp [0,1,7,8] [] V163
    ·exact any_step hX hs hb16
  ·skip
   have hr:=find_none hX (ge_of_dec hb9)
   refine Exec.exitS ?_
   refine ForK.ext ?_
   refine BlkK.hit ?_
   refine Exec.reg ?_
   refine Run.o1 V192 ?_
   refine Run.nil ?_
   exact Ends.fin [] (rs:=[.tmp 4]) rfl V192 V152
theorem c_ContainsFunc_Pr {g:FuncId}{ds:List D}(p:Pr→Bool)(hg:canCall Try.prog g=true)(l:List Pr)(hl:l.length≤100000)(hp:∀s,s∈l→Contract Try.prog g (prV s::ds.map fun x=>.leaf (.d x)) (.bool (p s)) []):Contract Try.prog 33 [.leaf (.d (.sl 2 (l.map encPr))),.leaf (.d (.fn g ds))] (.bool (l.any p)) []:=by
 refine con_of follows_mixed Try.func33 rfl (by simp only [List.length_cons,List.length_nil,Try.ntmps33];omega) V215 rfl ?_
 refine Exec.reg ?_
 refine Run.o1 V174 ?_
 refine Run.nil ?_
 refine Exec.reg ?_
 iterate 2 (refine Run.o1 V174 ?_)
 refine Run.c1 (c_IndexFunc_Pr p hg l hl hp) V174 V174 ?_
 iterate 2 (refine Run.o1 V174 ?_)
 refine Run.nil ?_
 exact Ends.fin [] (rs:=[.tmp 4]) rfl V174 (by simp only [go_sem,idxI_ge,find_any]<;>first|rfl|exact eqz)
theorem c_IndexFunc_Dw {g:FuncId}{ds:List D}(p:(Int × Int)→Bool)(hg:canCall Try.prog g=true)(l:List (Int × Int))(hl:l.length≤100000)(hp:∀s,s∈l→Contract Try.prog g (dwV s::ds.map fun x=>.leaf (.d x)) (.bool (p s)) []):Contract Try.prog 46 [.leaf (.d (.sl 2 (l.map encDw))),.leaf (.d (.fn g ds))] (.int (idxI (l.findIdx? p))) []:=by
 refine con_of follows_mixed Try.func46 rfl (by simp only [List.length_cons,List.length_nil,Try.ntmps46];omega) V215 rfl ?_
 refine Exec.reg ?_
 refine Run.o ?_
 refine Run.nil ?_
 refine Exec.assocS ?_
 refine Exec.reg ?_
 iterate 3 (refine Run.o ?_)
 refine Run.nil ?_
 refine Exec.blk ?_
 refine Exec.forA [0,1,7,8] [] (l.length) (fun k=>[.slot 8 (.int k)]) (fun k=>(l.take k).any p=false) (fun k=>by simp only [go_sem]<;>rfl) V208 ?_ (fun k hk hX=>?_)
 ·rfl
 ·skip
  refine Exec.reg ?_
  refine Run.o ?_
  refine Run.nil ?_
  refine Exec.cndS V208 (fun hb9=>?_) (fun hb9=>?_)
  ·skip
   have hlt:=lt_of_dec hb9
   obtain ⟨s,hs⟩:=elem_of hb9
   refine Exec.skipS ?_
   refine Exec.blk ?_
   refine Exec.reg ?_
   iterate 2 (refine Run.o1 V203 ?_)
   refine Run.nil ?_
   refine Exec.reg ?_
   iterate 3 (refine Run.o1 V203 ?_)
   refine Run.o1 V116 ?_
   refine Run.o1 V203 ?_
   refine Run.calw V208 (hp s (List.mem_of_getElem? hs)) (by assumption) V203 V203 V117 (fr0) V203 ?_
   refine Run.nil ?_
   refine Exec.cnd V203 (fun hb16=>?_) (fun hb16=>?_)
   ·skip
    have hr:=find_at hX hs hb16
    refine Exec.reg ?_
    iterate 2 (refine Run.o1 V186 ?_)
    refine Run.nil ?_
    refine BlkK.ret ?_
    refine ForK.ret ?_
    refine BlkK.ret ?_
    exact Ends.fin [] (rs:=[.tmp 4]) rfl V186 V147
   ·skip
    refine BlkK.nrm ?_
    refine Exec.reg1 ?_
    refine Run.o1 V86 ?_
    refine Run.o1 V203 ?_
    refine Run.nil ?_
    refine ForK.nxt ?_ ?_ ?_
    ·omega
    ·exact Ghost.kp [0,1,7,8] [] V163
    ·exact any_step hX hs hb16
  ·skip
   have hr:=find_none hX (ge_of_dec hb9)
   refine Exec.exitS ?_
   refine ForK.ext ?_
   refine BlkK.hit ?_
   refine Exec.reg ?_
   refine Run.o1 V192 ?_
   refine Run.nil ?_
   exact Ends.fin [] (rs:=[.tmp 4]) rfl V192 V152
theorem c_ContainsFunc_Dw {g:FuncId}{ds:List D}(p:(Int × Int)→Bool)(hg:canCall Try.prog g=true)(l:List (Int × Int))(hl:l.length≤100000)(hp:∀s,s∈l→Contract Try.prog g (dwV s::ds.map fun x=>.leaf (.d x)) (.bool (p s)) []):Contract Try.prog 23 [.leaf (.d (.sl 2 (l.map encDw))),.leaf (.d (.fn g ds))] (.bool (l.any p)) []:=by
 refine con_of follows_mixed Try.func23 rfl (by simp only [List.length_cons,List.length_nil,Try.ntmps23];omega) V215 rfl ?_
 refine Exec.reg ?_
 refine Run.o1 V174 ?_
 refine Run.nil ?_
 refine Exec.reg ?_
 iterate 2 (refine Run.o1 V174 ?_)
 refine Run.c1 (c_IndexFunc_Dw p hg l hl hp) V174 V174 ?_
 iterate 2 (refine Run.o1 V174 ?_)
 refine Run.nil ?_
 exact Ends.fin [] (rs:=[.tmp 4]) rfl V174 (by simp only [go_sem,idxI_ge,find_any]<;>first|rfl|exact eqz)
theorem c_IndexFunc_Pt {g:FuncId}{ds:List D}(p:Pt→Bool)(hg:canCall Try.prog g=true)(l:List Pt)(hl:l.length≤100000)(hp:∀s,s∈l→Contract Try.prog g (ptV s::ds.map fun x=>.leaf (.d x)) (.bool (p s)) []):Contract Try.prog 42 [.leaf (.d (.sl 3 (l.map encPt))),.leaf (.d (.fn g ds))] (.int (idxI (l.findIdx? p))) []:=by
 refine con_of follows_mixed Try.func42 rfl (by simp only [List.length_cons,List.length_nil,Try.ntmps42];omega) V215 rfl ?_
 refine Exec.reg ?_
 refine Run.o ?_
 refine Run.nil ?_
 refine Exec.assocS ?_
 refine Exec.reg ?_
 iterate 3 (refine Run.o ?_)
 refine Run.nil ?_
 refine Exec.blk ?_
 refine Exec.forA [0,1,7,8] [] (l.length) (fun k=>[.slot 8 (.int k)]) (fun k=>(l.take k).any p=false) (fun k=>by simp only [go_sem]<;>rfl) V208 ?_ (fun k hk hX=>?_)
 ·rfl
 ·skip
  refine Exec.reg ?_
  refine Run.o ?_
  refine Run.nil ?_
  refine Exec.cndS V208 (fun hb9=>?_) (fun hb9=>?_)
  ·skip
   have hlt:=lt_of_dec hb9
   obtain ⟨s,hs⟩:=elem_of hb9
   refine Exec.skipS ?_
   refine Exec.blk ?_
   refine Exec.reg ?_
   iterate 2 (refine Run.o1 V203 ?_)
   refine Run.nil ?_
   refine Exec.reg ?_
   iterate 3 (refine Run.o1 V203 ?_)
   refine Run.o1 V116 ?_
   refine Run.o1 V203 ?_
   refine Run.calw V208 (hp s (List.mem_of_getElem? hs)) (by assumption) V203 V203 V117 (fr0) V203 ?_
   refine Run.nil ?_
   refine Exec.cnd V203 (fun hb16=>?_) (fun hb16=>?_)
   ·skip
    have hr:=find_at hX hs hb16
    refine Exec.reg ?_
    iterate 2 (refine Run.o1 V186 ?_)
    refine Run.nil ?_
    refine BlkK.ret ?_
    refine ForK.ret ?_
    refine BlkK.ret ?_
    exact Ends.fin [] (rs:=[.tmp 4]) rfl V186 V147
   ·skip
    refine BlkK.nrm ?_
    refine Exec.reg1 ?_
    refine Run.o1 V86 ?_
    refine Run.o1 V203 ?_
    refine Run.nil ?_
    refine ForK.nxt ?_ ?_ ?_
    ·omega
    ·exact Ghost.kp [0,1,7,8] [] V163
    ·exact any_step hX hs hb16
  ·skip
   have hr:=find_none hX (ge_of_dec hb9)
   refine Exec.exitS ?_
   refine ForK.ext ?_
   refine BlkK.hit ?_
   refine Exec.reg ?_
   refine Run.o1 V192 ?_
   refine Run.nil ?_
   exact Ends.fin [] (rs:=[.tmp 4]) rfl V192 V152
theorem c_IndexS_Whl {g:FuncId}(st:Nat→Int)(hg:canCall Try.prog g=true)(l:List Whl)(hl:l.length≤100000)(hp:∀k s,l[k]? = some s→Con Try.prog g [whV s,.leaf (.ptr 902 0)] [(902,.cells [.d (.i (st k))])] (.ret (.bool false) [(902,.cells [.d (.i (st (k+1)))])])):Con Try.prog 76 [.leaf (.d (.sl 2 (l.map encWh))),.leaf (.obj 901)] [(901,.clo g [.ptr 902 0]),(902,.cells [.d (.i (st 0))])] (.ret (.int (-1)) [(901,.clo g [.ptr 902 0]),(902,.cells [.d (.i (st l.length))])]):=by
 refine con_of follows_mixed Try.func76 rfl (by simp only [List.length_cons,List.length_nil,Try.ntmps76];omega) V215 rfl ?_
 refine Exec.reg ?_
 refine Run.o ?_
 refine Run.nil ?_
 refine Exec.assocS ?_
 refine Exec.reg ?_
 iterate 3 (refine Run.o ?_)
 refine Run.nil ?_
 refine Exec.blk ?_
 refine Exec.forA [0,1,7,8] [901,902] (l.length) (fun k=>[.slot 8 (.int k),.obj 902 (.cells [.d (.i (st k))])]) (fun _=>True) (fun k=>by simp only [go_sem]<;>rfl) V180 ?_ (fun k hk hX=>?_)
 ·trivial
 ·skip
  refine Exec.reg ?_
  refine Run.o ?_
  refine Run.nil ?_
  refine Exec.cndS V208 (fun hb9=>?_) (fun hb9=>?_)
  ·skip
   have hlt:=lt_of_dec hb9
   obtain ⟨s,hs⟩:=elem_of hb9
   refine Exec.skipS ?_
   refine Exec.blk ?_
   refine Exec.reg ?_
   iterate 2 (refine Run.o1 V203 ?_)
   refine Run.nil ?_
   refine Exec.reg ?_
   iterate 3 (refine Run.o1 V203 ?_)
   refine Run.o1 V116 ?_
   refine Run.o1 V203 ?_
   refine Run.lendG [(902,902)] V208 (hp k s hs) hg (.inr ⟨901,by simp only [go_sem]<;>rfl,by simp only [go_sem]<;>rfl⟩) V208 V4 rfl (by decide) V59 V73 V55 V107 V208 ?_
   refine Run.nil ?_
   refine Exec.cnd V203 (fun hb16=>?_) (fun hb16=>?_)
   ·exact absurd hb16 (by simp)
   ·skip
    refine BlkK.nrm ?_
    refine Exec.reg1 ?_
    refine Run.o1 V86 ?_
    refine Run.o1 V203 ?_
    refine Run.nil ?_
    refine ForK.nxt ?_ ?_ ?_
    ·omega
    ·exact Ghost.kp [0,1,7,8] [901,902] V163
    ·trivial
  ·skip
   have hke:k=l.length:=by have:=ge_of_dec hb9;omega
   subst hke
   refine Exec.exitS ?_
   refine ForK.ext ?_
   refine BlkK.hit ?_
   refine Exec.reg ?_
   refine Run.o ?_
   refine Run.nil ?_
   exact Ends.fin [901,902] (rs:=[.tmp 4]) rfl V208 V171
theorem c_ContainsS_Whl {g:FuncId}(st:Nat→Int)(hg:canCall Try.prog g=true)(l:List Whl)(hl:l.length≤100000)(hp:∀k s,l[k]? = some s→Con Try.prog g [whV s,.leaf (.ptr 902 0)] [(902,.cells [.d (.i (st k))])] (.ret (.bool false) [(902,.cells [.d (.i (st (k+1)))])])):Con Try.prog 60 [.leaf (.d (.sl 2 (l.map encWh))),.leaf (.obj 901)] [(901,.clo g [.ptr 902 0]),(902,.cells [.d (.i (st 0))])] (.ret (.bool false) [(901,.clo g [.ptr 902 0]),(902,.cells [.d (.i (st l.length))])]):=by
 refine con_of follows_mixed Try.func60 rfl (by simp only [List.length_cons,List.length_nil,Try.ntmps60];omega) V215 rfl ?_
 refine Exec.reg ?_
 refine Run.o ?_
 refine Run.nil ?_
 refine Exec.reg ?_
 iterate 2 (refine Run.o ?_)
 refine Run.lendG [(901,901),(902,902)] V208 (c_IndexS_Whl st hg l hl hp) V210 (.inl ⟨[],by simp only [go_sem]<;>rfl,rfl⟩) V208 V4 rfl (by decide) V59 V67 V52 V101 V208 ?_
 iterate 2 (refine Run.o ?_)
 refine Run.nil ?_
 exact Ends.fin [901,902] (rs:=[.tmp 4]) rfl V208 V171
theorem c_IndexS_Pt {g:FuncId}(st:Nat→Int)(hg:canCall Try.prog g=true)(l:List Pt)(hl:l.length≤100000)(hp:∀k s,l[k]? = some s→Con Try.prog g [ptV s,.leaf (.ptr 902 0)] [(902,.cells [.d (.i (st k))])] (.ret (.bool false) [(902,.cells [.d (.i (st (k+1)))])])):Con Try.prog 42 [.leaf (.d (.sl 3 (l.map encPt))),.leaf (.obj 901)] [(901,.clo g [.ptr 902 0]),(902,.cells [.d (.i (st 0))])] (.ret (.int (-1)) [(901,.clo g [.ptr 902 0]),(902,.cells [.d (.i (st l.length))])]):=by
 refine con_of follows_mixed Try.func42 rfl (by simp only [List.length_cons,List.length_nil,Try.ntmps42];omega) V215 rfl ?_
 refine Exec.reg ?_
 refine Run.o ?_
 refine Run.nil ?_
 refine Exec.assocS ?_
 refine Exec.reg ?_
 iterate 3 (refine Run.o ?_)
 refine Run.nil ?_
 refine Exec.blk ?_
 refine Exec.forA [0,1,7,8] [901,902] (l.length) (fun k=>[.slot 8 (.int k),.obj 902 (.cells [.d (.i (st k))])]) (fun _=>True) (fun k=>by simp only [go_sem]<;>rfl) V180 ?_ (fun k hk hX=>?_)
 ·trivial
 ·skip
  refine Exec.reg ?_
  refine Run.o ?_
  refine Run.nil ?_
  refine Exec.cndS V208 (fun hb9=>?_) (fun hb9=>?_)
  ·skip
   have hlt:=lt_of_dec hb9
   obtain ⟨s,hs⟩:=elem_of hb9
   refine Exec.skipS ?_
   refine Exec.blk ?_
   refine Exec.reg ?_
   iterate 2 (refine Run.o1 V203 ?_)
   refine Run.nil ?_
   refine Exec.reg ?_
   iterate 3 (refine Run.o1 V203 ?_)
   refine Run.o1 V116 ?_
   refine Run.o1 V203 ?_
   refine Run.lendG [(902,902)] V208 (hp k s hs) hg (.inr ⟨901,by simp only [go_sem]<;>rfl,by simp only [go_sem]<;>rfl⟩) V208 V4 rfl (by decide) V59 V73 V55 V107 V208 ?_
   refine Run.nil ?_
   refine Exec.cnd V203 (fun hb16=>?_) (fun hb16=>?_)
   ·exact absurd hb16 (by simp)
   ·skip
    refine BlkK.nrm ?_
    refine Exec.reg1 ?_
    refine Run.o1 V86 ?_
    refine Run.o1 V203 ?_
    refine Run.nil ?_
    refine ForK.nxt ?_ ?_ ?_
    ·omega
    ·exact Ghost.kp [0,1,7,8] [901,902] V163
    ·trivial
  ·skip
   have hke:k=l.length:=by have:=ge_of_dec hb9;omega
   subst hke
   refine Exec.exitS ?_
   refine ForK.ext ?_
   refine BlkK.hit ?_
   refine Exec.reg ?_
   refine Run.o ?_
   refine Run.nil ?_
   exact Ends.fin [901,902] (rs:=[.tmp 4]) rfl V208 V171
theorem c_ContainsS_Pt {g:FuncId}(st:Nat→Int)(hg:canCall Try.prog g=true)(l:List Pt)(hl:l.length≤100000)(hp:∀k s,l[k]? = some s→Con Try.prog g [ptV s,.leaf (.ptr 902 0)] [(902,.cells [.d (.i (st k))])] (.ret (.bool false) [(902,.cells [.d (.i (st (k+1)))])])):Con Try.prog 68 [.leaf (.d (.sl 3 (l.map encPt))),.leaf (.obj 901)] [(901,.clo g [.ptr 902 0]),(902,.cells [.d (.i (st 0))])] (.ret (.bool false) [(901,.clo g [.ptr 902 0]),(902,.cells [.d (.i (st l.length))])]):=by
 refine con_of follows_mixed Try.func68 rfl (by simp only [List.length_cons,List.length_nil,Try.ntmps68];omega) V215 rfl ?_
 refine Exec.reg ?_
 refine Run.o ?_
 refine Run.nil ?_
 refine Exec.reg ?_
 iterate 2 (refine Run.o ?_)
 refine Run.lendG [(901,901),(902,902)] V208 (c_IndexS_Pt st hg l hl hp) V210 (.inl ⟨[],by simp only [go_sem]<;>rfl,rfl⟩) V208 V4 rfl (by decide) V59 V67 V52 V101 V208 ?_
 iterate 2 (refine Run.o ?_)
 refine Run.nil ?_
 exact Ends.fin [901,902] (rs:=[.tmp 4]) rfl V208 V171
def lastW (l:List Whl)(k:Nat):Int:=if k=0 then 0 else (l.getD (k-1) ⟨0,0⟩).teeth
theorem lastW_succ {l:List Whl}{k:Nat}{s:Whl}(h:l[k]? = some s):lastW l (k+1)=s.teeth:=by unfold lastW;rw [if_neg (by omega),Nat.add_sub_cancel,getD_of h]
theorem stock_ok {l:List Whl}(h:stockB l=true){k:Nat}{s:Whl}(hs:l[k]? = some s):inL s.teeth 6 100=true∧s.teeth>lastW l k∧inL s.count 0 4=true:=by
 unfold stockB at h
 rw [Bool.and_eq_true] at h
 have hk:k<l.length:=(List.getElem?_eq_some_iff.1 hs).1
 have:=(stock_at l).1 h.2 k hk
 unfold whAt at this
 rw [getD_of hs] at this
 simp only [Bool.and_eq_true,Bool.or_eq_true,decide_eq_true_eq] at this
 refine ⟨this.1.1,?_,this.1.2⟩
 unfold lastW
 by_cases h0:k=0
 ·rw [if_pos h0]
  have:=this.1.1
  unfold inL at this
  simp only [Bool.and_eq_true,decide_eq_true_eq] at this
  omega
 ·rw [if_neg h0];exact this.2.resolve_left h0
def fromP (c:Cv)(k:Nat):Int:=if k=0 then c.start else (c.ps.getD (k-1) ⟨0,⟨0,0⟩⟩).fl+1
theorem fromP_succ {c:Cv}{k:Nat}{s:Pt}(h:c.ps[k]? = some s):fromP c (k+1)=s.fl+1:=by unfold fromP;rw [if_neg (by omega),Nat.add_sub_cancel,getD_of h]
theorem curve_ok {c:Cv}(h:curveB c=true){k:Nat}{s:Pt}(hs:c.ps[k]? = some s):inL s.fl (fromP c k) 100000=true∧s.e.lo≥-1000∧s.e.lo≤s.e.hi∧s.e.hi≤1000:=by
 unfold curveB at h
 simp only [Bool.and_eq_true,decide_eq_true_eq] at h
 have hk:k<c.ps.length:=(List.getElem?_eq_some_iff.1 hs).1
 have:=(ptsB_at c c.ps c.start (Int.le_refl _)).1 h.2 k hk
 rw [getD_of hs] at this
 unfold inL fromP
 simp only [Bool.and_eq_true,decide_eq_true_eq]
 omega
theorem c_isStock_1 (s:Whl)(z:Int)(h1:inL s.teeth 6 100=true)(h2:s.teeth>z)(h3:inL s.count 0 4=true):Con Try.prog 59 [whV s,.leaf (.ptr 902 0)] [(902,.cells [.d (.i z)])] (.ret (.bool false) [(902,.cells [.d (.i s.teeth)])]):=by
 have h2:decide (s.teeth>z)=true:=decide_eq_true h2
 refine con_of follows_mixed Try.func59 rfl (by simp only [List.length_cons,List.length_nil,Try.ntmps59];omega) V215 rfl ?_
 refine Exec.reg ?_
 iterate 2 (refine Run.o1 V130 ?_)
 refine Run.nil ?_
 refine Exec.reg ?_
 iterate 2 (refine Run.o1 V130 ?_)
 refine Run.c1 (c_gear_isTeeth _) V130 V130 ?_
 refine Run.o1 V130 ?_
 iterate 4 (refine Run.gop V208 V130 V208 ?_)
 iterate 2 (refine Run.o1 V130 ?_)
 iterate 2 (refine Run.gop V208 V130 V208 ?_)
 refine Run.gcal V208 (c_gear_within _ _ _) V210 V130 V16 V130 ?_
 iterate 2 (refine Run.o1 V130 ?_)
 refine Run.nil ?_
 refine Exec.reg ?_
 iterate 3 (refine Run.o1 V130 ?_)
 refine Run.nil ?_
 refine Exec.reg ?_
 iterate 3 (refine Run.o1 V130 ?_)
 refine Run.nil ?_
 exact Ends.fin [902] (rs:=[.tmp 3]) rfl V130 (by simp only [go_sem,h1,h2,h3,Bool.true_and,Bool.and_true,Bool.not_true]<;>first|rfl|exact eqz)
theorem c_isStock (l:List Whl)(h:stockB l=true):Contract Try.prog 35 [.leaf (.d (whsD l))] (.bool true) []:=by
 have hn:l.length≤8:=by unfold stockB at h;rw [Bool.and_eq_true,decide_eq_true_eq] at h;exact h.1
 have hd:decide ((l.length:Int)≤8)=true:=decide_eq_true (by omega)
 have hz:lastW l 0=0:=rfl
 refine con_of follows_mixed Try.func35 rfl (by simp only [List.length_cons,List.length_nil,Try.ntmps35];omega) V215 rfl ?_
 refine Exec.reg ?_
 refine Run.o1 V146 ?_
 refine Run.nil ?_
 refine Exec.reg ?_
 iterate 2 (refine Run.o1 V146 ?_)
 refine Run.nil ?_
 refine Exec.reg ?_
 iterate 2 (refine Run.o1 V146 ?_)
 refine Run.nil ?_
 refine Exec.reg ?_
 iterate 4 (refine Run.o1 V146 ?_)
 iterate 2 (refine Run.y1 V146 ?_)
 refine Run.lendG [(901,5),(902,3)] V208 (c_ContainsS_Whl (g:=59) (lastW l) V210 l (by omega) (fun k s hs=>by have h0:=stock_ok h hs;rw [lastW_succ hs];exact c_isStock_1 s _ h0.1 h0.2.1 h0.2.2)) V210 (.inl ⟨[],by simp only [go_sem]<;>rfl,rfl⟩) V208 V4 rfl (by decide) V59 V67 V52 V101 V208 ?_
 refine Run.y1 V146 ?_
 iterate 2 (refine Run.o1 V146 ?_)
 refine Run.nil ?_
 exact Ends.fin [] (rs:=[.tmp 2]) rfl V146 (by simp only [go_sem,hd,Bool.true_and,Bool.not_false]<;>first|rfl|exact eqz)
theorem c_isCurve_1 (s:Pt)(z:Int)(h1:inL s.fl z 100000=true)(h2:s.e.lo≥-1000)(h3:s.e.lo≤s.e.hi)(h4:s.e.hi≤1000)(hz:0≤z):Con Try.prog 67 [ptV s,.leaf (.ptr 902 0)] [(902,.cells [.d (.i z)])] (.ret (.bool false) [(902,.cells [.d (.i (s.fl+1))])]):=by
 have h2:decide (s.e.lo≥-1000)=true:=decide_eq_true h2
 have h3:decide (s.e.lo≤s.e.hi)=true:=decide_eq_true h3
 have h4:decide (s.e.hi≤1000)=true:=decide_eq_true h4
 have hb:z≤s.fl∧s.fl≤100000:=by unfold inL at h1;simpa using h1
 refine con_of follows_mixed Try.func67 rfl (by simp only [List.length_cons,List.length_nil,Try.ntmps67];omega) V215 rfl ?_
 refine Exec.reg ?_
 iterate 2 (refine Run.o1 V125 ?_)
 refine Run.nil ?_
 refine Exec.reg ?_
 iterate 3 (refine Run.o1 V125 ?_)
 refine Run.c1 (c_curve_within _ _ _) V125 V125 ?_
 refine Run.o1 V125 ?_
 iterate 4 (refine Run.gop V208 V125 V208 ?_)
 iterate 2 (refine Run.o1 V125 ?_)
 iterate 7 (refine Run.gop V208 V125 V208 ?_)
 iterate 2 (refine Run.o1 V125 ?_)
 iterate 4 (refine Run.gop V208 V125 V208 ?_)
 iterate 2 (refine Run.o1 V125 ?_)
 refine Run.nil ?_
 refine Exec.reg ?_
 iterate 2 (refine Run.o1 V125 ?_)
 refine Run.o1 (by simp only [go_sem,h1,h2,h3,h4,Bool.true_and,Bool.and_true,Bool.not_true];(try simp (disch:=omega) only [IntWalk.i64_in,IntWalk.u64_in,IntWalk.i32_in,IntWalk.u8_in,if_neg,if_pos])<;> rfl) ?_
 refine Run.o1 V125 ?_
 refine Run.nil ?_
 refine Exec.reg ?_
 iterate 3 (refine Run.o1 V125 ?_)
 refine Run.nil ?_
 exact Ends.fin [902] (rs:=[.tmp 3]) rfl V125 (by simp only [go_sem,h1,h2,h3,h4,Bool.true_and,Bool.and_true,Bool.not_true]<;>first|rfl|exact eqz)
theorem curveB_bd {c:Cv}(h:curveB c=true):(0≤c.start∧c.start≤100000)∧(0≤c.steep∧c.steep≤1000)∧c.ps.length≤10:=by
 unfold curveB at h
 simp only [Bool.and_eq_true,decide_eq_true_eq] at h
 omega
theorem fromP_nn {c:Cv}(h:curveB c=true)(k:Nat):0≤fromP c k:=by
 have hb:=curveB_bd h
 unfold fromP
 split
 ·exact hb.1.1
 ·rename_i h0
  rw [List.getD_eq_getElem?_getD]
  cases ho:c.ps[k-1]? with
  |none=>decide
  |some p=>
   have h1:=(curve_ok h ho).1
   have h2:=fromP_nn h (k-1)
   unfold inL at h1
   simp only [Bool.and_eq_true,decide_eq_true_eq] at h1
   show 0≤p.fl+1
   omega
termination_by k
theorem c_isCurve (c:Cv)(h:curveB c=true):Contract Try.prog 40 [cvV c] (.bool true) []:=by
 obtain ⟨b1,b2,hn⟩:=curveB_bd h
 have hd:decide ((c.ps.length:Int)≤10)=true:=decide_eq_true (by omega)
 have hz:fromP c 0=c.start:=rfl
 have i1:inL c.start 0 100000=true:=by unfold inL;simp;omega
 have i2:inL c.steep 0 1000=true:=by unfold inL;simp;omega
 refine con_of follows_mixed Try.func40 rfl (by simp only [List.length_cons,List.length_nil,Try.ntmps40];omega) V215 rfl ?_
 refine Exec.reg ?_
 iterate 2 (refine Run.o1 V142 ?_)
 refine Run.nil ?_
 refine Exec.reg ?_
 iterate 4 (refine Run.o1 V142 ?_)
 refine Run.nil ?_
 refine Exec.reg ?_
 iterate 2 (refine Run.o1 V142 ?_)
 refine Run.nil ?_
 refine Exec.reg ?_
 iterate 2 (refine Run.o1 V142 ?_)
 refine Run.c1 (c_curve_isFlow _) V142 V142 ?_
 refine Run.o1 V142 ?_
 iterate 2 (refine Run.y1 V142 ?_)
 refine Run.calw V208 (c_curve_within _ _ _) V210 V142 V142 V16 (fr0) V142 ?_
 iterate 2 (refine Run.o1 V142 ?_)
 iterate 4 (refine Run.y1 V142 ?_)
 iterate 2 (refine Run.o1 V142 ?_)
 iterate 3 (refine Run.y1 V142 ?_)
 refine Run.lendG [(901,7),(902,3)] V208 (c_ContainsS_Pt (g:=67) (fromP c) V210 c.ps (by omega) (fun k s hs=>by have h0:=curve_ok h hs;rw [fromP_succ hs];exact c_isCurve_1 s _ h0.1 h0.2.1 h0.2.2.1 h0.2.2.2 (fromP_nn h k))) V210 (.inl ⟨[],by simp only [go_sem]<;>rfl,rfl⟩) V208 V4 rfl (by decide) V59 V67 V52 V101 V208 ?_
 refine Run.y1 V142 ?_
 iterate 2 (refine Run.o1 V142 ?_)
 refine Run.nil ?_
 exact Ends.fin [] (rs:=[.tmp 2]) rfl V142 (by simp only [go_sem,hd,i1,i2,Bool.true_and,Bool.not_false]<;>first|rfl|exact eqz)
theorem c_Rounds_1 (p:Pr):Contract Try.prog 30 [prV p] (.bool (!(inL p.a 6 100&&inL p.b 6 100))) []:=by
 refine con_of follows_mixed Try.func30 rfl (by simp only [List.length_cons,List.length_nil,Try.ntmps30];omega) V215 rfl ?_
 refine Exec.reg ?_
 iterate 2 (refine Run.o1 V187 ?_)
 refine Run.nil ?_
 refine Exec.reg ?_
 iterate 2 (refine Run.o1 V187 ?_)
 refine Run.c1 (c_gear_isTeeth _) V187 V187 ?_
 iterate 2 (refine Run.o1 V187 ?_)
 iterate 2 (refine Run.gop V208 V187 V208 ?_)
 refine Run.gcal V208 (c_gear_isTeeth _) V210 V187 V96 V187 ?_
 refine Run.gop V208 V187 V208 ?_
 iterate 2 (refine Run.o1 V187 ?_)
 refine Run.nil ?_
 exact Ends.fin [] (rs:=[.tmp 2]) rfl V187 (by simp only [go_sem,Bool.not_and]<;>first|rfl|exact eqz)
theorem c_Shown_1 (p:Int × Int):Contract Try.prog 21 [dwV p] (.bool (!(inL p.1 0 100000&&inL p.2 0 1073741824))) []:=by
 refine con_of follows_mixed Try.func21 rfl (by simp only [List.length_cons,List.length_nil,Try.ntmps21];omega) V215 rfl ?_
 refine Exec.reg ?_
 iterate 2 (refine Run.o1 V187 ?_)
 refine Run.nil ?_
 refine Exec.reg ?_
 iterate 2 (refine Run.o1 V187 ?_)
 refine Run.c1 (c_curve_isFlow _) V187 V187 ?_
 iterate 2 (refine Run.o1 V187 ?_)
 iterate 2 (refine Run.gop V208 V187 V208 ?_)
 refine Run.gcal V208 (c_curve_within _ _ _) V210 V187 V16 V187 ?_
 refine Run.gop V208 V187 V208 ?_
 iterate 2 (refine Run.o1 V187 ?_)
 refine Run.nil ?_
 exact Ends.fin [] (rs:=[.tmp 2]) rfl V187 (by simp only [go_sem,Bool.not_and]<;>first|rfl|exact eqz)
theorem c_at_1 (p:Pt)(f:Int):Contract Try.prog 43 [ptV p,.leaf (.d (.pt [.i f]))] (.bool (p.fl==f)) []:=by
 refine con_of follows_mixed Try.func43 rfl (by simp only [List.length_cons,List.length_nil,Try.ntmps43];omega) V215 rfl ?_
 refine Exec.reg ?_
 iterate 2 (refine Run.o ?_)
 refine Run.nil ?_
 refine Exec.reg ?_
 iterate 5 (refine Run.o ?_)
 refine Run.nil ?_
 exact Ends.fin [] (rs:=[.tmp 3]) rfl V208 V171
def roundsI (t:List Pr)(n:Int):Int:=(n*drives t).tdiv (driven t)
theorem c_Rounds (t:Tr)(h:TeethOK t.ps)(hn:t.ps.length≤3)(n:Int)(hb:0≤n∧n≤1073741824):Contract Try.prog 11 [trV t,.int n] (tupI [roundsI t.ps n,0]) []:=by
 have d1:=drives_bd h hn
 have d2:=driven_bd h hn
 have m1:=mulN (a:=n) (b:=drives t.ps) (A:=1073741824) (B:=1000000) hb (by omega)
 have hle:decide ((t.ps.length:Int)>3)=false:=decide_eq_false (by omega)
 have hin:inL n 0 1073741824=true:=by unfold inL;simp;omega
 have hany:t.ps.any (fun p=>!(inL p.a 6 100&&inL p.b 6 100))=false:=by
  rw [List.any_eq_false]
  intro p hp
  obtain ⟨⟨h1,h2⟩,h3,h4⟩:=h p hp
  unfold inL
  simp;omega
 have hz:¬driven t.ps=0:=by omega
 have e1:(n*drives t.ps).tdiv (driven t.ps)=n*drives t.ps / driven t.ps:=Int.tdiv_eq_ediv_of_nonneg m1.1
 have e2:roundsI t.ps n=n*drives t.ps / driven t.ps:=e1
 have e3:0≤n*drives t.ps / driven t.ps:=Int.ediv_nonneg m1.1 (by omega)
 have e4:n*drives t.ps / driven t.ps≤n*drives t.ps:=Int.ediv_le_self _ m1.1
 refine con_of follows_mixed Try.func11 rfl (by simp only [List.length_cons,List.length_nil,Try.ntmps11];omega) V215 rfl ?_
 refine Exec.reg ?_
 iterate 3 (refine Run.o1 V119 ?_)
 refine Run.nil ?_
 refine Exec.reg ?_
 refine Run.o1 V119 ?_
 refine Run.nil ?_
 refine Exec.assocS ?_
 refine Exec.reg ?_
 iterate 5 (refine Run.o1 V119 ?_)
 refine Run.gop V208 V119 V208 ?_
 refine Run.gcal V208 (c_gear_within _ _ _) V210 V119 V16 V119 ?_
 refine Run.gop V208 V119 V208 ?_
 iterate 2 (refine Run.o1 V119 ?_)
 iterate 3 (refine Run.gop V208 V119 V208 ?_)
 refine Run.gcal V208 (c_ContainsFunc_Pr (fun p=>!(inL p.a 6 100&&inL p.b 6 100)) (ds:=[]) V210 t.ps (by omega) (fun p _=>c_Rounds_1 p)) V210 V119 V31 V119 ?_
 refine Run.o1 V119 ?_
 refine Run.nil ?_
 refine Exec.cndS V119 (fun hb23=>?_) (fun hb23=>?_)
 ·exact absurd hb23 (by simp)
 ·skip
  refine Exec.skipS ?_
  refine Exec.reg ?_
  iterate 2 (refine Run.o1 V119 ?_)
  refine Run.c1 (c_products t.ps h hn) V119 V119 ?_
  iterate 5 (refine Run.o1 V119 ?_)
  refine Run.nil ?_
  refine Exec.reg ?_
  iterate 2 (refine Run.o1 V119 ?_)
  refine Run.o1 V48 ?_
  refine Run.o1 V119 ?_
  refine Run.o1 V48 ?_
  iterate 2 (refine Run.o1 V119 ?_)
  refine Run.nil ?_
  exact Ends.fin [] (rs:=[.tmp 4,.tmp 5]) rfl V119 (by simp only [go_sem,hle,hin,hany,Bool.not_true,Bool.or_false,hz,if_false,e1,e2]<;>first|rfl|exact eqz)
end Go.Mw
