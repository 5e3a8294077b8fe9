/-
  AuditBegins' walk.
-/
import Derived.Test.YtdihmpakglakdaaGreatGa85
import Derived.Deep.RegionHeld3
set_option linter.unusedVariables false
set_option linter.unusedSimpArgs false
set_option maxRecDepth 100000
set_option maxHeartbeats 16000000
namespace Go.Proofs.YtdihmpakglakdaaGreat
open Go.RowKit Go.Lib
theorem begins_walk{w:World}{G:Nat→Prop}{A:Option Addr}{n c:Nat}{l:List MvD}(hln:l.length=n)(hv:MvsIn0 w G (A,c) l)(k:Int):
  Calls Tryz.prog 4 #[.slice A n c,.int .i64 k] w fun e w'=>e=.returned (.bool true)∧Frm Nix w w':=by
 have KL:Hid (∀ W,Frm Nix w W→Calls Tryz.prog 12 #[.slice A n c] W fun e w'=>e=.returned (.bool (largeMvs (msOf l)))∧Frm Nix W w'):=fun W hW=>by
  have q:=rLargeMv_any (hv.nix hW);rw[hln] at q;exact q
 cases hl:largeMvs (msOf l) with
 | true=>
   rw[hl] at KL;clear hv hl;go_enter Tryz.func4,Tryz.ntmps4;go_wp2_with (first | (go_at_call 12;((with_reducible refine(KL.out _ (fR w)).mono ?_);rintro e w1 ⟨rfl,hf⟩);have W1:Hid (Frm Nix w w1):=hf;clear hf) | (go_at_call 13;((with_reducible refine(lives37_any _).mono ?_);rintro e w2 ⟨rfl,hf⟩);have W2:Hid (Frm Nix w w2):=(W1.out.trans hf);clear hf) | fail);go_ret
   exact⟨rfl,W2.out⟩
 | false=>
 rw[hl] at KL
 by_cases h0:k<0
 ·clear hv hl
  go_enter Tryz.func4,Tryz.ntmps4;go_wp2_with (first | (go_at_call 12;((with_reducible refine(KL.out _ (fR w)).mono ?_);rintro e w1 ⟨rfl,hf⟩);have W1:Hid (Frm Nix w w1):=hf;clear hf) | (go_at_call 13;((with_reducible refine(lives37_any _).mono ?_);rintro e w2 ⟨rfl,hf⟩);have W2:Hid (Frm Nix w w2):=(W1.out.trans hf);clear hf) | fail);go_ret;exact⟨rfl,W2.out⟩
 by_cases h1:(n:Int)<k
 ·clear hv hl
  go_enter Tryz.func4,Tryz.ntmps4;go_wp2_with (first | (go_at_call 12;((with_reducible refine(KL.out _ (fR w)).mono ?_);rintro e w1 ⟨rfl,hf⟩);have W1:Hid (Frm Nix w w1):=hf;clear hf) | (go_at_call 13;((with_reducible refine(lives37_any _).mono ?_);rintro e w2 ⟨rfl,hf⟩);have W2:Hid (Frm Nix w w2):=(W1.out.trans hf);clear hf) | fail);go_ret;exact⟨rfl,W2.out⟩
 obtain⟨j,rfl⟩:∃ j:Nat,k=j:=⟨k.toNat,by omega⟩;have hjn:j≤n:=by omega
 have hv1:=hv.small hl;have hnl:n≤100:=by have:=(largeMvs_no hl).1;simp only[msOf,List.length_map] at this;omega
 have hcap:n≤c:=by have:=hv.sl.cap;simp only at this;omega
 have hmx:c≤maxLen:=hv.sl.max;have hnil:A=none→c=0:=hv.sl.nil
 have KC:Hid (∀ W,Frm Nix w W→Calls Tryz.prog 14 #[.slice A n c] W fun e w'=>e=.returned (.tuple #[.int .i64 (chkA au0 (msOf l)),.int .i64 (chkE (chkA au0 (msOf l)) n)])∧Frm Nix W w'):=fun W hW=>by
  have q:=Check_any (hv1.nix hW) (by omega);rw[hln] at q;exact q
 have KC2:Hid (∀ W,Frm Nix w W→Calls Tryz.prog 14 #[.slice A j c] W fun e w'=>e=.returned (.tuple #[.int .i64 (min j (chkA au0 (msOf l)):Nat),.int .i64 (chkE (min j (chkA au0 (msOf l))) j)])∧Frm Nix W w'):=fun W hW=>by
  have q:=Check_any ((hv1.nix hW).first (k:=j) (by omega)) (by rw[List.length_take];omega);have e1:(l.take j).length=j:=by rw[List.length_take];omega
  have e2:msOf (l.take j)=(msOf l).take j:=List.map_take;rw[e1,e2,chkA_take _ _ _ (by simp only[msOf,List.length_map];omega)] at q;exact q
 have hq:chkA au0 (msOf l)≤n:=by have:=chkA_le (msOf l) au0;simp only[msOf,List.length_map] at this ⊢;omega
 generalize chkA au0 (msOf l)=q at *;clear hv hv1 hl hln;have hi0:(0:Int)≤(j:Int):=by omega
 have hi1:(j:Int)≤(n:Int):=by omega
 have hi2:(j:Int)≤(c:Int):=by omega
 have hi3:(n:Int)≤(c:Int):=by omega
 have hi4:(0:Int)≤(q:Int):=by omega
 have hi5:(q:Int)≤(n:Int):=by omega
 have d1:decide ((q:Int)<0)=false:=decide_eq_false (by omega);have d2:decide ((n:Int)<(q:Int))=false:=decide_eq_false (by omega);have d3:decide (n<q)=false:=decide_eq_false (by omega);have d4:decide (n<j)=false:=decide_eq_false (by omega);have HJ:=h_ (And.intro hjn hq)
 by_cases c1:q=n
 ·subst c1
  rw[show chkE q q=0 from if_pos rfl] at KC;rw[Nat.min_eq_left hjn,show chkE j j=0 from if_pos rfl] at KC2;have d5:decide (j≤q)=true:=decide_eq_true (by omega);have d6:decide ((j:Int)≤(q:Int))=true:=decide_eq_true (by omega);clear hjn hq h0 h1 hnl;go_enter Tryz.func4,Tryz.ntmps4;go_wp2_with (first | (go_at_call 12;((with_reducible refine(KL.out _ (fR w)).mono ?_);rintro e w1 ⟨rfl,hf⟩);have W1:Hid (Frm Nix w w1):=hf;clear hf) | (go_at_call 14;((with_reducible refine(KC.out _ W1.out).mono ?_);rintro e w2 ⟨rfl,hf⟩);have W2:Hid (Frm Nix w w2):=(W1.out.trans hf);clear hf) | (go_at_call 14;((with_reducible refine(KC2.out _ W2.out).mono ?_);rintro e w3 ⟨rfl,hf⟩);have W3:Hid (Frm Nix w w3):=(W2.out.trans hf);clear hf) | (go_at_call 13;((with_reducible refine(lives37_any _).mono ?_);rintro e w4 ⟨rfl,hf⟩);have W4:Hid (Frm Nix w w4):=(W3.out.trans hf);clear hf) | fail);go_ret;exact⟨rfl,W4.out⟩
 have c2:((q:Int)==(n:Int))=false:=beq_eq_false_iff_ne.2 (by omega);have c3:(q==n)=false:=beq_eq_false_iff_ne.2 c1;rw[show chkE q n=4 from if_neg c1] at KC
 by_cases c4:j≤q
 ·rw[Nat.min_eq_left c4,show chkE j j=0 from if_pos rfl] at KC2
  have d5:decide (j≤q)=true:=decide_eq_true (by omega);have d6:decide ((j:Int)≤(q:Int))=true:=decide_eq_true (by omega);clear hjn hq h0 h1 hnl c1 c4;go_enter Tryz.func4,Tryz.ntmps4;go_wp2_with (first | (go_at_call 12;((with_reducible refine(KL.out _ (fR w)).mono ?_);rintro e w1 ⟨rfl,hf⟩);have W1:Hid (Frm Nix w w1):=hf;clear hf) | (go_at_call 14;((with_reducible refine(KC.out _ W1.out).mono ?_);rintro e w2 ⟨rfl,hf⟩);have W2:Hid (Frm Nix w w2):=(W1.out.trans hf);clear hf) | (go_at_call 14;((with_reducible refine(KC2.out _ W2.out).mono ?_);rintro e w3 ⟨rfl,hf⟩);have W3:Hid (Frm Nix w w3):=(W2.out.trans hf);clear hf) | (go_at_call 13;((with_reducible refine(lives37_any _).mono ?_);rintro e w4 ⟨rfl,hf⟩);have W4:Hid (Frm Nix w w4):=(W3.out.trans hf);clear hf) | fail);go_ret;exact⟨rfl,W4.out⟩
 ·rw[Nat.min_eq_right (by omega),show chkE q j=4 from if_neg (by omega)] at KC2
  have d5:decide (j≤q)=false:=decide_eq_false (by omega);have d6:decide ((j:Int)≤(q:Int))=false:=decide_eq_false (by omega);clear hjn hq h0 h1 hnl c1 c4;go_enter Tryz.func4,Tryz.ntmps4;go_wp2_with (first | (go_at_call 12;((with_reducible refine(KL.out _ (fR w)).mono ?_);rintro e w1 ⟨rfl,hf⟩);have W1:Hid (Frm Nix w w1):=hf;clear hf) | (go_at_call 14;((with_reducible refine(KC.out _ W1.out).mono ?_);rintro e w2 ⟨rfl,hf⟩);have W2:Hid (Frm Nix w w2):=(W1.out.trans hf);clear hf) | (go_at_call 14;((with_reducible refine(KC2.out _ W2.out).mono ?_);rintro e w3 ⟨rfl,hf⟩);have W3:Hid (Frm Nix w w3):=(W2.out.trans hf);clear hf) | (go_at_call 13;((with_reducible refine(lives37_any _).mono ?_);rintro e w4 ⟨rfl,hf⟩);have W4:Hid (Frm Nix w w4):=(W3.out.trans hf);clear hf) | fail);go_ret;exact⟨rfl,W4.out⟩
end Go.Proofs.YtdihmpakglakdaaGreat
