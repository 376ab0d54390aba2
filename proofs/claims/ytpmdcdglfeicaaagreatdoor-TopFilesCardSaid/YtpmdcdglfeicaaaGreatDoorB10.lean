/- Contracts of the functions that the book reaches: bits that are punched. -/
import Derived.Test.YtpmdcdglfeicaaaGreatDoorB5
import Derived.Test.YtpmdcdglfeicaaaGreatDoorB9
import Derived.Test.YtpmdcdglfeicaaaGreatDoorB7
import Derived.WalkKit
import Derived.Defers
import Derived.Recover
import Derived.Test.YtpmdcdglfeicaaaGreatDoorB6
import Derived.Test.YtpmdcdglfeicaaaGreatDoorRows
import Derived.LaidMore
import Derived.Lay
import Derived.ChangeMaps5
set_option maxRecDepth 20000
set_option linter.unusedSimpArgs false
set_option linter.unusedVariables false
set_option linter.unusedSectionVars false
set_option linter.deprecated false
namespace Go.Mw
open Go.Proofs
open Go.Bk
attribute [-go_sem] YJ
attribute [local go_sem] JCM JCV JCS JCU JCN JCT JCR JCQ JCP JCO
end Go.Mw
namespace Go.Mw
open Go.Proofs
open Go.Bk
attribute [-go_sem] YJ
attribute [local go_sem] JCM JCV JCS JCU JCN JCT JCR JCQ JCP JCO
attribute [local irreducible] JDK JG9 JNb pack rst JKn JNp JGb JJ0 ZE Qp
end Go.Mw
namespace Go.Mw
open Go.Proofs
open Go.Bk
attribute [-go_sem] YJ
attribute [local go_sem] JCM JCV JCS JCU JCN JCT JCR JCQ JCP JCO
attribute [local irreducible] JDK JG9 pack rst JKn JNp JGb JJ0 Qp
end Go.Mw
namespace Go.Mw
open Go.Proofs
open Go.Bk
attribute [-go_sem] YJ
attribute [local go_sem] JCM JCV JCS JCU JCN JCT JCR JCQ JCP JCO
theorem JEw {α:Type}{l:List α}{k:Nat}{x:α}(h:l[k]? = some x):l.drop k=x::l.drop (k+1):=by
 obtain ⟨hk,rfl⟩:=List.getElem?_eq_some_iff.1 h
 exact List.drop_eq_getElem_cons hk
end Go.Mw
namespace Go.Mw
open Go.Proofs
open Go.Bk
attribute [-go_sem] YJ
attribute [local go_sem] JCM JCV JCS JCU JCN JCT JCR JCQ JCP JCO
end Go.Mw
namespace Go.Mw
open Go.Proofs
open Go.Bk
attribute [-go_sem] YJ
attribute [local go_sem] JCM JCV JCS JCU JCN JCT JCR JCQ JCP JCO
end Go.Mw
namespace Go.Mw
open Go.Proofs
open Go.Bk
attribute [-go_sem] YJ
attribute [local go_sem] JCM JCV JCS JCU JCN JCT JCR JCQ JCP JCO
end Go.Mw
namespace Go.Bk
attribute [local irreducible] JDK JG9
end Go.Bk
namespace Go.Mw
open Go.Proofs
open Go.Bk
attribute [-go_sem] YJ
attribute [local go_sem] JCM JCV JCS JCU JCN JCT JCR JCQ JCP JCO
end Go.Mw
namespace Go.Mw
open Go.Proofs Go.Bk
end Go.Mw
namespace Go.Mw
open Go.Proofs Go.RowKit
end Go.Mw
namespace Go.Mw
open Go.Proofs
open Go.Bk
end Go.Mw
namespace Go.Bk
theorem JON {α:Type}{a b:List α}{k:Nat}{x:α}(hx:a[k]? = some x)(hy:b[k]? = some x)(h:a.take k=b.take k):a.take (k+1)=b.take (k+1):=by
 rw [List.take_add_one,List.take_add_one,hx,hy,h]
theorem JOM {α:Type}{a b:List α}{k:Nat}(hl:a.length=b.length)(hk:a.length≤k)(h:a.take k=b.take k):a=b:=by
 rwa [List.take_of_length_le hk,List.take_of_length_le (by omega)] at h
end Go.Bk
namespace Go.Mw
open Go.Proofs
open Go.Bk
attribute [local go_sem] decide_true beq_self_eq_true bne_self_eq_false
end Go.Mw
namespace Go.Mw
open Go.Proofs
open Go.Bk
attribute [local go_sem] decide_true beq_self_eq_true bne_self_eq_false
end Go.Mw
namespace Go.Mw
open Go.Proofs Go.RowKit Go.ChangeShapes Go.WideShapes Go.Bk
section
variable {H:Type} {enc:TypeId × Value→H} {W:World} {v:Value} {d:DataW H} {ps:List MemPlace}
end
end Go.Mw
