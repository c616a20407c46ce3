/- What groups span, by the program and by the document: of the models. Its conditions: none. -/
import Derived.Test.YtdficaoajalfaaaGreatSG55
import Derived.Test.YtdficaoajalfaaaGreatSDPikeMatches
set_option linter.all false
namespace Go.Proofs.YtdficaoajalfaaaGreat
open Go.V Go.RowKit Old Go.X
theorem b_hb {l:List a_2} (hR:c_0 l=false) (hl:l.length*64<=140737488351232) (h40:l.length<=1000) (w:List Int) (whole:Bool):s_3 Fb l w whole=some ([],11)/\p_8 Fb l w whole=some ([],11):=by
 refine ⟨?_,?_⟩
 ·unfold s_3;rw [b_gy hR hl h40];rfl
 ·unfold p_8;rw [(a_sl hR hl h40).2];rfl
theorem a_6b {l:List a_2} (hw:∀ x∈l,d_6 x) (hl:l.length*64<=140737488351232) (h40:l.length<=1000) {w:List Int} (hb:∀ x∈w,inK .u8 x) (hwl:w.length<=100000) (whole:Bool):∃ r,s_3 Fb l w whole=some r/\p_8 Fb l w whole=some r/\r.1.length<=1000:=by
 cases hR:c_0 l with
 |false=>exact ⟨_,(b_hb hR hl h40 w whole).1,(b_hb hR hl h40 w whole).2,by simp⟩
 |
  true=>
  obtain ⟨a,b,e,z,K⟩:=known hw hR hl h40
  exact ⟨_,b_fp K hw hb hwl whole,b_rx K hw hb hwl whole,b_jz (a_o3 K hw hb whole _ (Nat.le_refl _) hwl)⟩
theorem b_gz (l:List a_2) (w:List Int):a_gw Fb l w=some (decide (l.length<=40)&&decide (w.length<=24)):=by
 unfold a_gw
 by_cases h1:l.length<=40
 ·have h1':(l.length:Int)<=40:=by omega
  by_cases h2:w.length<=24
  ·have h2':(w.length:Int)<=24:=by omega
   simp [h1,h1',h2,h2']
  ·have h2':¬ (w.length:Int)<=24:=by omega
   simp [h1,h1',h2,h2']
 ·have h1':¬ (l.length:Int)<=40:=by omega
  simp [h1,h1']
theorem a_0d:a_qm:=by
 intro l w hl0 hw0 hl hwl
 have hw:=a_14 hl0
 have hb:=b_co hw0
 refine ⟨Fb,?_⟩
 unfold a_eg
 rw [b_gz]
 by_cases hf:l.length<=40/\w.length<=24
 ·obtain ⟨r,r1,r2,r3⟩:=a_6b hw hl (by omega) hb (by omega) true
  obtain ⟨s,s1,s2,s3⟩:=a_6b hw hl (by omega) hb (by omega) false
  have f1:(2000:Nat)<Fb:=by unfold Fb;omega
  unfold s_4 r_7
  simp only [a_0,hf.1,hf.2,decide_true,Bool.and_self,Bool.not_true,Bool.false_eq_true,if_false,r1,r2,s1,s2,a_tx r3 f1,a_tx s3 f1,if_true,beq_self_eq_true,a_gz]
 ·have:(decide (l.length<=40)&&decide (w.length<=24))=false:=by simp;omega
  simp only [a_0,this,Bool.not_false,if_true,a_gz]
