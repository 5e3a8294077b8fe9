/- Words. -/
import Derived.Test.YtaecjmiobllhmaaGreatGr30
import Derived.Test.YtaecjmiobllhmaaGreatGr62
set_option linter.unusedVariables false
set_option linter.unusedSimpArgs false
namespace Go.Proofs.YtaecjmiobllhmaaGreat
def gB(f:bh):Bool:=decide (1000<(f.name.size:Int))
def cP(f:aX):Bool:=decide (1000<(f.url.size:Int))||decide (1000<(f.title.size:Int))
def mM(s:ByteArray):Bool:=decide (300<(s.size:Int))
def bL(t:aR):Bool:=(decide (1000<(t.guid.size:Int))||(decide (1000<(t.title.size:Int))||(decide (1000<(t.link.size:Int))||decide (20<(t.tags.length:Int)))))||t.tags.any mM
def bU(s:ce):Bool:=decide (1000<(s.name.size:Int))||decide (1000<(s.query.size:Int))
def lw(x:St):Bool:=(decide (70<(x.fols.length:Int))||(decide (70<(x.fees.length:Int))||(decide (120<(x.itms.length:Int))||decide (40<(x.seas.length:Int)))))||(x.fols.any gB||(x.fees.any cP||(x.itms.any bL||x.seas.any bU)))
theorem DL{x:St}(h:lw x=false):x.fols.length≤70∧x.fees.length≤70∧x.itms.length≤120∧x.seas.length≤40∧∀t∈x.itms,t.tags.length≤20:=by
 unfold lw at h;simp only[Bool.or_eq_false_iff,decide_eq_false_iff_not] at h;obtain⟨⟨h1,h2,h3,h4⟩,-,-,h7,-⟩:=h;refine⟨by omega,by omega,by omega,by omega,λt ht=>?_⟩;have:=List.any_eq_false.1 h7 t ht;simp only[Bool.not_eq_true] at this;unfold bL at this;simp only[Bool.or_eq_false_iff,decide_eq_false_iff_not] at this;omega
theorem BS{x:St}(h:lw x=false):aP x:=by
 obtain⟨h1,h2,h3,h4,h5⟩:=DL h;exact⟨by omega,by omega,by omega,by omega,λt ht=>by have:=h5 t ht;omega⟩
section
variable {α:Type} {p:List α→α→Bool} {l:List α} {k:Nat}
end
end Go.Proofs.YtaecjmiobllhmaaGreat
