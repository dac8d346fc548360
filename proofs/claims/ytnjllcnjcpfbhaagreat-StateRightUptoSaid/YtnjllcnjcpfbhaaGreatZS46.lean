/- Parts. -/
import Derived.Test.YtnjllcnjcpfbhaaGreatZS45
namespace Go.Proofs.YtnjllcnjcpfbhaaGreat
set_option linter.unusedVariables false
set_option linter.unusedSimpArgs false
open Go.RowKit Go.Proofs.Tryz
set_option maxRecDepth 100000
set_option maxHeartbeats 8000000
theorem awake_ac:AF 8 [] (B true):=by
 obtain ⟨⟨a1,a2⟩,⟨b1,b2⟩,⟨c1,c2⟩⟩:=lk_ok;have i1:Inv 3 w1:=(inv_w lkA a1 a2).1;have i2:Inv 3 w2:=(inv_w lkB b1 b2).2.1;have i3:Inv 3 w3:=(inv_w lkB b1 b2).2.2.1;have i4:Inv 3 w4:=(inv_w lkC c1 c2).2.2.2;have hA:=adm_ok root1;have hO:=one_ok root1;have hl:=tokP_le hO;have hr:root1.length<=100000:=by simp
 have hp:=tparse_ac (rpB root1).val (by show (tokP (one root1)).length<=_;omega);rw [show parT (rpB root1).val=(one root1,0) from parT_print hO.may hO.len] at hp
 refine awake_x (root:=root1) (A:=adm root1) (O:=one root1) (s0:=st0) (s1:=w1) (s2:=w2) (s3:=w3) (s4:=w4) (Ra:=rp0) (Rb:=rpB root1) (Rc:=rp0) (Rd:={ rp0 with val:=k1 }) (Rf:=failR 92) (Rg:=failR 94) (Rh:=rp0) (Ri:=failR 93) (Rj:={ rp0 with lnk:=lkC.getD 2 lk0 }) (Rk:=failR 130)
  rfl (admin_ac root1 hr) stnew_ac hp ?_ ?_ ?_ ?_ ?_ ?_ ?_ ?_ ?_ ?_ rfl rfl rfl (by rw [bsz];show (tokP (one root1)).length<=_;omega) rfl rfl rfl rfl rfl rfl lkC_2.2 lkC_2.1 rfl
 ·intro _;have:=told_ac inv0 (by omega) root1 hr (adm root1) hA 1 qCre (by decide) (fun _=>rfl) (by decide);rw [row_a] at this;exact this
 ·intro _;have:=told_ac i1 (by omega) root1 hr (adm root1) hA 2 qGnt (by decide) (fun _=>rfl) (by decide);rw [row_b] at this;exact this
 ·intro _;have:=told_ac i2 (by omega) root1 hr (one root1) hO 49 qPut (by decide) (fun _=>rfl) (by decide);rw [row_c] at this;exact this
 ·intro _;have:=told_ac i3 (by omega) root1 hr (one root1) hO 49 qGet (by decide) (fun _=>rfl) (by decide);rw [row_d] at this;exact this
 ·intro _;have:=told_ac i3 (by omega) root1 hr (one root1) hO 50 qPut2 (by decide) (fun _=>rfl) (by decide);rw [row_f] at this;exact this
 ·intro _;have:=told_ac i3 (by omega) root1 hr (one root1) hO 49 qCre2 (by decide) (fun _=>rfl) (by decide);rw [row_g] at this;exact this
 ·intro _;have:=told_ac i3 (by omega) root1 hr (adm root1) hA 49 qRev (by decide) (fun _=>rfl) (by decide);rw [row_h] at this;exact this
 ·intro _;have:=told_ac i4 (by omega) root1 hr (one root1) hO 49 qGet (by decide) (fun _=>rfl) (by decide);rw [row_i] at this;exact this
 ·intro _;have:=told_ac i4 (by omega) root1 hr (adm root1) hA 49 (qAud 3) (by decide) (fun _=>rfl) (by decide);rw [row_j] at this;exact this
 ·intro _;have:=told_ac i4 (by omega) root1 hr (adm root1) hA 49 (qAud 4) (by decide) (fun _=>rfl) (by decide);rw [row_k] at this;exact this
