/- Words. -/
import Derived.Test.YtaecjmiobllhmaaGreatGr01
import Derived.Shelf.SlIterI.Nil
set_option linter.unusedVariables false
set_option linter.unusedSimpArgs false
namespace Go.Proofs.YtaecjmiobllhmaaGreat
open Go.RowKit Go.Maps
section
variable {P:Program} {w:World} {m k:TypeId}
def Bp:Value→Option (DataW Unit×List MemPlace):=λ_=>some (.nil,[])
theorem MB{e:GE}{n:Int}(hk:keyOf P k e.key=some (.int .i64 n)):Go.WideElems.rg P k Bp e.me=(.int .i64 n,.nil):=by
 simp[Go.WideElems.rg,Go.WideElems.rd,Bp,GE.me,hk]
theorem aO.ownI{L:List (Int×Value)}(ht:P.underlying k=some (.int .i64))(h:aO P k w m (L.map λp=>(.int .i64 p.1,p.2)))(hn:L.length≤maxLen):
  ∃D,w.ownsMap P k Bp m L.length D∧(intKeys D).Perm (L.map (·.1))∧Maps.size D=L.length:=by
 obtain⟨R,clock,hg,bO,hp⟩:=h;have hlen:R.length=L.length:=by simpa using hp.length_eq
 have hkey:∀e∈R,∃n,e.key=.int .i64 n∧keyOf P k e.key=some (.int .i64 n):=λe he=>by
  obtain⟨l,hl⟩:=bO.isK e he;obtain⟨x,h1,h2,-⟩:=Maps.keyOf_i64 ht hl;exact⟨x,h1,by rw[hl,h2]⟩
 refine⟨_,⟨(R.map GE.me).toArray,clock,hg,⟨by simp;omega,⟨λx hx=>?_,?_,?_⟩,λx hx=>?_⟩,by simp[hlen],rfl⟩,?_,?_⟩
 ·simp at hx
  obtain⟨e,he,rfl⟩:=hx;exact bO.born e he
 ·have e:(R.map GE.me).map (·.born)=R.map (·.born):=by rw[List.map_map];rfl
  show ((R.map GE.me).map (·.born)).Nodup
  rw[e];exact bO.borns
 ·have e:(R.map GE.me).map (·.key)=R.map (·.key):=by rw[List.map_map];rfl
  show ((R.map GE.me).map (·.key)).Nodup
  rw[e];exact bO.keys
 ·simp at hx
  obtain⟨e,he,rfl⟩:=hx;obtain⟨n,-,h2⟩:=hkey e he;exact⟨(.int .i64 n,.nil),by simp[Go.WideElems.rd,Bp,GE.me,h2]⟩
 ·show (List.map (λp:Lit×DataW Unit=>intOf p.1) _).Perm _
  refine((Go.WideShapes.sorted_perm _).map _).trans ?_;have hq:=hp.map λp:Value×Value=>match p.1 with | .int _ n=>n|_=>0
  refine List.Perm.trans (List.Perm.of_eq ?_) (hq.trans (List.Perm.of_eq ?_))
  ·simp only[List.map_map]
   refine List.map_congr_left λe he=>?_
   obtain⟨n,h1,h2⟩:=hkey e he;simp only[Function.comp,MB h2,GE.kv,h1,intOf]
  ·simp only[List.map_map]
   exact List.map_congr_left λp _=>rfl
 ·show List.length _=_
  rw[(Go.WideShapes.sorted_perm _).length_eq];simp[hlen]
theorem nu{ss l:List Int}(h:ss.Perm l)(hl:l.Pairwise (·<·)):ss.mergeSort (λx y=>decide (x≤y))=l:=by
 have tr:∀a b c:Int,decide (a≤b)=true→decide (b≤c)=true→decide (a≤c)=true:=λa b c h1 h2=>by simp only[decide_eq_true_eq] at *;omega
 have to:∀a b:Int,(decide (a≤b)||decide (b≤a))=true:=λa b=>by simp only[Bool.or_eq_true,decide_eq_true_eq];omega
 refine List.Perm.eq_of_pairwise (le:=λa b=>decide (a≤b)=true) (λa b _ _ h1 h2=>?_) (List.pairwise_mergeSort tr to ss) (hl.imp λ{a b} hab=>by simpa using Int.le_of_lt hab) ((List.mergeSort_perm _ _).trans h);simp only[decide_eq_true_eq] at h1 h2;omega
end
end Go.Proofs.YtaecjmiobllhmaaGreat
