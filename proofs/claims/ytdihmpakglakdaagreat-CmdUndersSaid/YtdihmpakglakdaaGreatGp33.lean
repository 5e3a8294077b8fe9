/-
  Plain: what was done is undone: a folder that went; items that were read.
-/
import Derived.Test.YtdihmpakglakdaaGreatGp32
import Derived.Test.YtdihmpakglakdaaGreatGp07
import Derived.Test.YtdihmpakglakdaaGreatGp08
set_option linter.unusedVariables false
set_option linter.unusedSimpArgs false
namespace Go.Proofs.YtdihmpakglakdaaGreat
open Go.Lib
section
section
variable {x:St}
end
end
section
section
variable {y:St} {m:Int}
end
end
section
def backP(x:St)(e:Ev):List Ev:=
 if e.kind=1 then [⟨2,e.a,0,0,eS,eS,eS⟩]
 else if e.kind=2 then [match atI Fol.id e.a x.fols with | none=>⟨1,e.a,0,0,eS,eS,eS⟩ | some f=>⟨1,e.a,f.inn,0,f.name,eS,eS⟩]
 else if e.kind=3 then [⟨4,e.a,0,0,eS,eS,eS⟩]
 else if e.kind=4 then (match atI Fee.id e.a x.fees with | none=>⟨3,e.a,0,0,eS,eS,eS⟩ | some f=>⟨3,e.a,f.inn,0,f.url,f.title,eS⟩)::(x.itms.filter fun t=>decide (t.feed=e.a)).flatMap itmEvs
 else if e.kind=5 then [match atI Fee.id e.a x.fees with | none=>⟨5,e.a,0,0,eS,eS,eS⟩ | some f=>⟨5,e.a,0,0,eS,f.title,eS⟩]
 else if e.kind=6 then [match atI Fee.id e.a x.fees with | none=>⟨6,e.a,0,0,eS,eS,eS⟩ | some f=>⟨6,e.a,f.inn,0,eS,eS,eS⟩]
 else if e.kind=11 then [⟨12,e.a,0,0,eS,eS,eS⟩]
 else if e.kind=12 then [match atI Sea.id e.a x.seas with | none=>⟨11,e.a,0,0,eS,eS,eS⟩ | some q=>⟨11,e.a,0,0,q.name,q.query,eS⟩]
 else [{e with n:=1 - e.n}]
section
variable {sh:ByteArray→Int→ByteArray} {tg:ByteArray→ByteArray}
end
end
section
theorem up_end{l:List Fol}{id u:Int}(h:id=u∨id=0):∀ k,upG l k id u=id
 | 0=>rfl
 | k+1=>by
   unfold upG;rw[if_neg];rintro⟨h1,h2⟩;rcases h with h | h
   ·exact h1 h
   ·exact h2 h
theorem up_step{l:List Fol}{id u:Int}{f:Fol}(h1:id≠u)(h2:id≠0)(hf:atI Fol.id id l=some f)(k:Nat):upG l (k+1) id u=upG l k f.inn u:=by
 conv=>lhs;unfold upG
 rw[if_pos ⟨h1,h2⟩,hf]
theorem up_fuel{l:List Fol}{u:Int}:∀ (j k:Nat) (id:Int),chainF l j id→j≤k→upG l k id u=upG l j id u
 | 0,k,id,h,_=>by
   have h0:id=0:=h
   rw[up_end (.inr h0),up_end (.inr h0)]
 | j+1,0,_,_,hk=>by omega
 | j+1,k+1,id,h,hk=>by
   obtain⟨h0,f,hf,hc⟩:=h
   by_cases h1:id=u
   ·rw[up_end (.inl h1),up_end (.inl h1)]
   ·rw[up_step h1 h0 hf,up_step h1 h0 hf]
    exact up_fuel j k f.inn hc (by omega)
theorem in_chain{x:St}(h:StP x){b:Int}(hb:inS x b=true):∃ j,j≤7∧chainF x.fols j b:=by
 obtain⟨j,h1,h2,-⟩:=h.deep b hb;exact⟨j,h1,h2⟩
theorem within_at{x:St}(h:StP x){b u:Int}(hb:inS x b=true){j:Nat}(hc:chainF x.fols j b)(hj:j≤10):withinS x b u=(decide (upG x.fols j b u=u)||decide (u=0)):=by
 unfold withinS;rw[up_fuel j 10 b hc hj]
section
variable (sh:ByteArray→Int→ByteArray) (tg:ByteArray→ByteArray)
def doC(x:St)(c:Cm):St:=foldE x (planP sh tg x c).1
end
end
def cutR:List Nat→Int→List Nat
 | [],_=>[]
 | c::r,n=>if ((encR c).length:Int)≤n then c::cutR r (n - (encR c).length) else []
def shortR(l:List UInt8)(m:Int):List Nat:=cleanR (cutR (cleanR (runesD l) [] false) m) [] false
def shortS(s:ByteArray)(m:Int):ByteArray:=ofB (enc (shortR (bys s) m))
theorem cutR_len:∀ (l:List Nat) {n:Int},0≤n→((enc (cutR l n)).length:Int)≤n
 | [],n,h=>by simpa [cutR,enc] using h
 | c::r,n,h=>by
   unfold cutR;split
   ·rename_i h1
    have:=cutR_len r (n:=n - (encR c).length) (by omega);rw[enc_cons,List.length_append];omega
   ·simpa [enc] using h
theorem cutR_sub:∀ (l:List Nat) (n:Int),∀ c ∈ cutR l n,c ∈ l
 | [],_,c,h=>by simp[cutR] at h
 | a::r,n,c,h=>by
   unfold cutR at h;split at h
   ·rcases List.mem_cons.1 h with rfl | h
    ·simp
    ·exact List.mem_cons.2 (.inr (cutR_sub r _ c h))
   ·simp at h
def CleanG(out:List Nat):Prop:=∀ r,cleanR (out++r) [] false=cleanR r out false
theorem cleanG_step{out:List Nat}(h:CleanG out){c:Nat}(h1:¬blankR c=true)(h2:¬ctrlR c=true):CleanG (out++[c]):=fun r=>by
 rw[List.append_assoc,h];show cleanR (c::r) out false=_
 rw[cleanR,if_neg h1,if_neg h2];simp
theorem cleanG_blank{out:List Nat}(h:CleanG out)(hne:out≠[]){c:Nat}(h1:¬blankR c=true)(h2:¬ctrlR c=true):CleanG (out++[32]++[c]):=fun r=>by
 rw[List.append_assoc,List.append_assoc,h];show cleanR (32::c::r) out false=_
 have hb:blankR 32=true:=rfl;have hi:out.isEmpty=false:=by cases out<;>simp_all
 rw[cleanR,if_pos hb,hi,cleanR,if_neg h1,if_neg h2];simp
theorem cleanR_good:∀ (rs out:List Nat) (wt:Bool),CleanG out→(wt=true→out≠[])→CleanG (cleanR rs out wt)
 | [],out,wt,h,_=>by simpa [cleanR] using h
 | c::r,out,wt,h,hw=>by
   unfold cleanR;split
   ·exact cleanR_good r out _ h fun e=>by cases out<;>simp_all
   ·split
    ·exact cleanR_good r out wt h hw
    ·rename_i h1 h2
     refine cleanR_good r _ false ?_ fun e=>by cases e
     split
     ·rename_i h3
      exact cleanG_blank h (hw h3) h1 h2
     ·exact cleanG_step h h1 h2
theorem cleanR_idem(rs:List Nat):cleanR (cleanR rs [] false) [] false=cleanR rs [] false:=by
 have:=cleanR_good rs [] false (fun r=>rfl) (fun e=>by cases e) [];rw[List.append_nil] at this;exact this
theorem cleanR_bytes:∀ (rs out:List Nat) (wt:Bool),(enc (cleanR rs out wt)).length≤(enc out).length+(enc rs).length+(if wt=true then 1 else 0)
 | [],out,wt=>Nat.le_trans (Nat.le_add_right _ _) (Nat.le_add_right _ _)
 | c::r,out,wt=>by
   have hc:=(encR_len c).1;have e32:(enc [32]).length=1:=by decide
   rw[enc_cons,List.length_append];unfold cleanR;split
   ·have:=cleanR_bytes r out (!out.isEmpty)
    have h1:(if (!out.isEmpty)=true then 1 else 0)≤1:=by split<;>omega
    omega
   ·split
    ·have:=cleanR_bytes r out wt
     omega
    ·have:=cleanR_bytes r ((if wt=true then out++[32] else out)++[c]) false
     rw[enc_append,List.length_append] at this;have h2:(enc [c]).length=(encR c).length:=by simp[enc]
     cases wt with
     | true=>
       simp only[if_true] at this ⊢;rw[enc_append,List.length_append,e32] at this;simp only[Bool.false_eq_true,if_false,Nat.add_zero] at this
       omega
     | false=>
       simp only[Bool.false_eq_true,if_false,Nat.add_zero] at this ⊢;omega
theorem rightD_enc:∀ (rs:List Nat),(∀ r ∈ rs,Vr r)→rightD (enc rs)=true
 | [],_=>rfl
 | c::r,h=>by
   have hd:=decode_enc c (h c (by simp)) (enc r)
   have hne:enc (c::r)≠[]:=by
    rw[enc_cons];intro e;exact encR_ne c (List.append_eq_nil_iff.1 e).1
   rw[rightD_step _ (by
    rw[enc_cons,hd];intro e;injection e with e1 e2;subst e1;have:(encR 65533).length=3:=by decide
    omega) hne,enc_cons,hd]
   simp only[List.drop_left];exact rightD_enc r fun x hx=>h x (List.mem_cons_of_mem _ hx)
theorem shortR_valid(l:List UInt8)(m:Int):∀ r ∈ shortR l m,Vr r:=
 cleanR_valid _ _ _ (fun r hr=>cleanR_valid _ _ _ (runesD_valid l) (by simp) r (cutR_sub _ _ r hr)) (by simp)
theorem short_ok(s:ByteArray)(m:Int)(h:0≤m):textOk (shortS s m) m=true:=by
 have hv:=shortR_valid (bys s) m;have hb:bys (shortS s m)=enc (shortR (bys s) m):=by simp[shortS,bys,ofB]
 unfold textOk;rw[hb,rightD_enc _ hv];have hsz:(shortS s m).size=(enc (shortR (bys s) m)).length:=by simp[shortS,ofB,ByteArray.size]
 rw[hsz];have h1:=cutR_len (cleanR (runesD (bys s)) [] false) h;have h2:=cleanR_bytes (cutR (cleanR (runesD (bys s)) [] false) m) [] false
 have h3:cleanS (enc (shortR (bys s) m))=enc (shortR (bys s) m):=by
  unfold cleanS;rw[runesD_enc' _ hv];unfold shortR;rw[cleanR_idem]
 rw[h3];simp only[Bool.and_true,decide_true,decide_eq_true_eq];unfold shortR;simp only[enc_nil,List.length_nil,Bool.false_eq_true,if_false] at h2;omega
theorem enc_split(rs:List Nat)(k:Nat):enc rs=enc (rs.take k)++enc (rs.drop k):=by rw[← enc_append,List.take_append_drop]
theorem take_enc(rs:List Nat)(k:Nat):(enc rs).take (enc (rs.take k)).length=enc (rs.take k):=by
 conv=>lhs;rw[enc_split rs k]
 rw[List.take_left'];rfl
theorem drop_enc(rs:List Nat)(k:Nat):(enc rs).drop (enc (rs.take k)).length=enc (rs.drop k):=by
 conv=>lhs;rw[enc_split rs k]
 rw[List.drop_left'];rfl
theorem cut_at:∀ (rs:List Nat) (n:Int) (k:Nat),k≤rs.length→(k=0∨((enc (rs.take k)).length:Int)≤n)→(k=rs.length∨n<((enc (rs.take (k+1))).length:Int))→cutR rs n=rs.take k
 | [],n,k,hk,_,_=>by simp[cutR]
 | c::r,n,0,hk,_,h2=>by
   have h:¬((encR c).length:Int)≤n:=by
    rcases h2 with h2 | h2
    ·simp at h2
    ·simp[enc] at h2
     omega
   rw[cutR,if_neg h]
   rfl
 | c::r,n,k+1,hk,h1,h2=>by
   have e1:((enc ((c::r).take (k+1))).length:Int)=(encR c).length+(enc (r.take k)).length:=by
    rw[List.take_succ_cons,enc_cons,List.length_append];omega
   have e2:((enc ((c::r).take (k+1+1))).length:Int)=(encR c).length+(enc (r.take (k+1))).length:=by
    rw[List.take_succ_cons,enc_cons,List.length_append];omega
   rw[e1] at h1;rw[e2] at h2
   have h1:((encR c).length:Int)+(enc (r.take k)).length≤n:=by
    rcases h1 with h1 | h1
    ·cases h1
    ·exact h1
   rw[cutR,if_pos (by omega),List.take_succ_cons]
   rw[cut_at r (n - (encR c).length) k (by simpa using hk) (.inr (by omega)) (by
    rcases h2 with h2 | h2
    ·exact .inl (by simpa using h2)
    ·exact .inr (by omega))]
theorem cut_bytes{s:ByteArray}{rs:List Nat}(hs:bys s=enc rs)(n:Int)(k:Nat)(hk:k≤rs.length)(h1:k=0∨((enc (rs.take k)).length:Int)≤n)(h2:k=rs.length∨n<((enc (rs.take (k+1))).length:Int)):
  s.extract 0 (enc (rs.take k)).length=ofB (enc (cutR rs n)):=by
 rw[cut_at rs n k hk h1 h2];apply bys_inj;rw[bys_ofB,← take_enc rs k,← hs];simp[bys]
theorem take_le(rs:List Nat)(k:Nat):(enc (rs.take k)).length≤(enc rs).length:=by
 rw[enc_split rs k,List.length_append];omega
theorem take_succ_len(rs:List Nat)(k:Nat)(h:k<rs.length):(enc (rs.take (k+1))).length=(enc (rs.take k)).length+(encR rs[k]).length:=by
 rw[List.take_succ_eq_append_getElem h,enc_append,List.length_append];simp[enc]
theorem cleanS_enc{rs:List Nat}(h:∀ r ∈ rs,Vr r):cleanS (enc rs)=enc (cleanR rs [] false):=by
 unfold cleanS;rw[runesD_enc' rs h]
def tagS(s:ByteArray):ByteArray:=match wordsB s with | []=>eS | w::_=>if tagOk w=true then w else eS
theorem tagOk_ne{w:ByteArray}(h:tagOk w=true):w≠eS:=by
 unfold tagOk labelOk at h;simp only[Bool.and_eq_true,decide_eq_true_eq] at h;exact h.1.1
end Go.Proofs.YtdihmpakglakdaaGreat
