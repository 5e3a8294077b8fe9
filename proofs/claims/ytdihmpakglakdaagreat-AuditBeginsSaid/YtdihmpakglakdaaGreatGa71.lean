/-
  Plain: states too large to be looked at; a list looked at one by one, with what stands ahead. No program in sight.
-/
import Derived.Test.YtdihmpakglakdaaGreatGa32
import Derived.Test.YtdihmpakglakdaaGreatGa62
set_option linter.unusedVariables false
set_option linter.unusedSimpArgs false
namespace Go.Proofs.YtdihmpakglakdaaGreat
def largeFol(f:Fol):Bool:=decide (1000<(f.name.size:Int))
def largeFee(f:Fee):Bool:=decide (1000<(f.url.size:Int))||decide (1000<(f.title.size:Int))
def largeTag(s:ByteArray):Bool:=decide (300<(s.size:Int))
def largeItm(t:Itm):Bool:=(decide (1000<(t.guid.size:Int))||(decide (1000<(t.title.size:Int))||(decide (1000<(t.link.size:Int))||decide (20<(t.tags.length:Int)))))||t.tags.any largeTag
def largeSea(s:Sea):Bool:=decide (1000<(s.name.size:Int))||decide (1000<(s.query.size:Int))
def largeS(x:St):Bool:=(decide (70<(x.fols.length:Int))||(decide (70<(x.fees.length:Int))||(decide (120<(x.itms.length:Int))||decide (40<(x.seas.length:Int)))))||(x.fols.any largeFol||(x.fees.any largeFee||(x.itms.any largeItm||x.seas.any largeSea)))
theorem large_itms{x:St}(h:largeS x=false):x.fols.length≤70∧x.fees.length≤70∧x.itms.length≤120∧x.seas.length≤40∧∀ t ∈ x.itms,t.tags.length≤20:=by
 unfold largeS at h;simp only[Bool.or_eq_false_iff,decide_eq_false_iff_not] at h;obtain⟨⟨h1,h2,h3,h4⟩,-,-,h7,-⟩:=h;refine⟨by omega,by omega,by omega,by omega,fun t ht=>?_⟩;have:=List.any_eq_false.1 h7 t ht;simp only[Bool.not_eq_true] at this;unfold largeItm at this;simp only[Bool.or_eq_false_iff,decide_eq_false_iff_not] at this;omega
theorem small_large{x:St}(h:largeS x=false):StSmall x:=by
 obtain⟨h1,h2,h3,h4,h5⟩:=large_itms h;exact⟨by omega,by omega,by omega,by omega,fun t ht=>by have:=h5 t ht;omega⟩
theorem past_large{x:St}(h:largeS x=false):(pastS x).length≤900000:=by
 obtain⟨h1,h2,h3,h4,h5⟩:=large_itms h;have:=past_len x 20 h5;have:x.itms.length * (20+3)≤120 * 23:=Nat.mul_le_mul_right _ h3;omega
section
variable {α:Type} {p:List α→α→Bool} {l:List α} {k:Nat}
theorem allG_all:allG p [] l=true↔∀ (j:Nat) (h:j<l.length),p (l.take j) l[j]=true:=by
 rw[allG_iff];constructor
 ·intro h j hj
  have:=h (l.take j) l[j] (l.drop (j+1)) (by rw[← List.drop_eq_getElem_cons hj,List.take_append_drop])
  simpa using this
 ·intro h A a B e
  subst e;have:=h A.length (by simp)
  simpa using this
theorem allG_no(h:k<l.length)(hn:p (l.take k) l[k]=false):allG p [] l=false:=by
 refine Bool.eq_false_iff.2 fun ha=>?_
 rw[allG_all.1 ha k h] at hn
 cases hn
theorem allG_yes(h:∀ (j:Nat) (hj:j<l.length),j<l.length→p (l.take j) l[j]=true):allG p [] l=true:=allG_all.2 fun j hj=>h j hj hj
theorem take_any_{q:α→Bool}{i:Nat}(hk:k<i)(hi:i≤l.length)(he:q (l[k]'(by omega))=true):(l.take i).any q=true:=
 List.any_eq_true.2 ⟨_,List.mem_take_iff_getElem.2 ⟨k,by omega,rfl⟩,he⟩
theorem rises_zero{g:α→Int}{a:α}:risesI g (l.take 0) a=true:=by simp[risesI]
theorem rises_at{g:α→Int}{a:α}(h:k+1≤l.length):risesI g (l.take (k+1)) a=decide (g (l[k]'(by omega))<g a):=by
 have hk:k<l.length:=by omega
 have e:(l.take (k+1)).getLast? =some l[k]:=by
  rw[List.take_succ_eq_append_getElem hk];exact List.getLast?_concat
 unfold risesI;rw[e]
end
theorem tagsRise_all:∀ l:List ByteArray,tagsRise l=true↔∀ (j:Nat) (h:j<l.length),tagOk l[j]=true∧(j=0∨∃ h0:0<j,ltB (l[j - 1]'(by omega)) l[j])
 | []=>by simp[tagsRise]
 | [a]=>by
   simp[tagsRise]
 | a::b::r=>by
   rw[tagsRise,Bool.and_eq_true,Bool.and_eq_true,tagsRise_all (b::r)];simp only[decide_eq_true_eq];constructor
   ·rintro⟨⟨h1,h2⟩,h3⟩ j hj
    cases j with
    | zero=>exact⟨h1,.inl rfl⟩
    | succ j=>
      have:=h3 j (by simpa using hj);refine⟨this.1,.inr ⟨by omega,?_⟩⟩;rcases this.2 with h0 | ⟨h0,hlt⟩
      ·subst h0
       exact h2
      ·obtain⟨j,rfl⟩:∃ j',j=j'+1:=⟨j - 1,by omega⟩
       exact hlt
   ·intro h
    refine⟨⟨(h 0 (by simp)).1,?_⟩,fun j hj=>?_⟩
    ·rcases(h 1 (by simp)).2 with h1 | ⟨_,h1⟩
     ·omega
     ·exact h1
    ·have:=h (j+1) (by simpa using hj)
     refine⟨this.1,?_⟩;rcases this.2 with h1 | ⟨h0,hlt⟩
     ·omega
     ·cases j with
      | zero=>exact .inl rfl
      | succ j=>exact .inr ⟨by omega,hlt⟩
end Go.Proofs.YtdihmpakglakdaaGreat
