/- Parts. -/
import Derived.Test.YtmnpailnelmpiaaQBnd
import Derived.Test.YtmnpailnelmpiaaQNotesI
set_option linter.unusedSimpArgs false
set_option linter.unusedVariables false
set_option maxHeartbeats 2000000
set_option maxRecDepth 100000
namespace Go.Proofs.Ytmnpailnelmpiaa
open Go.RowKit Go.Sort
def qV:C:=iS [iA 2 (iO false)] (.seq (iS [iA 11 (iM 0),iA 12 (.len true (.t 11)),iA 13 (iQ .gtr 3 12 1048576)] (iD 13 (iS [iA 2 (iO true)] .ret) .skip)) (iS [iA 15 (iM 0),iA 16 (.call 12 [.t 15]),iA 14 (iM 16),iA 17 (iE 14 0),iA 18 (iE 14 1),iA 3 (iM 17),iA 4 (iM 18)] (iS [iA 20 (iM 0),iA 21 (.call 13 [.t 20]),iA 19 (iM 21),iA 22 (iE 19 0),iA 23 (iE 19 1),iA 5 (iM 22),iA 6 (iM 23)] (.seq (iS [iA 24 (iM 5),iA 25 (iM 3),iA 26 (.call 14 [.t 24,.t 25]),iA 27 (iU 26),iA 28 (iM 27),iB 29 28 false (iM 6),iB 30 28 false (iM 4),iB 31 28 false (iP .neq 3 29 30),iA 32 (.pick (.t 28) (.c (.bool true)) (.t 31))] (iD 32 (iS [iA 2 (iO false)] .ret) .skip)) (iS [iA 7 (iN 1)] (iS [iA 33 (iM 5),iA 34 (iM 7),iA 35 (.call 15 [.t 33,.t 34]),iA 7 (iM 35)] (iS [iA 8 (iN 1)] (iS [iA 36 (iM 5),iA 37 (iM 8),iA 38 (.call 16 [.t 36,.t 37]),iA 8 (iM 38)] (.seq (iS [iA 39 (iM 8),iA 40 (iQ .lss 3 39 0)] (iD 40 (iS [iA 2 (iO false)] .ret) .skip)) (.seq (iS [iA 41 (iM 8),iA 42 (iM 7),iA 43 (iP .neq 3 41 42)] (iD 43 (iS [iA 2 (iO false)] .ret) .skip)) (iS [iA 45 (iM 0),iA 46 (.call 13 [.t 45]),iA 44 (iM 46),iA 47 (iE 44 0),iA 48 (iE 44 1),iA 9 (iM 47),iA 10 (iM 48)] (.seq (iS [iA 49 (iM 9),iA 50 (iM 3),iA 51 (.call 14 [.t 49,.t 50]),iA 52 (iU 51),iA 53 (iM 52),iB 54 53 false (iM 10),iB 55 53 false (iM 4),iB 56 53 false (iP .neq 3 54 55),iA 57 (.pick (.t 53) (.c (.bool true)) (.t 56))] (iD 57 (iS [iA 2 (iO false)] .ret) .skip)) (iS [iA 8 (iN 1)] (iS [iA 58 (iM 5),iA 59 (iM 8),iA 60 (.call 16 [.t 58,.t 59]),iA 8 (iM 60)] (.seq (iS [iA 61 (iM 8),iA 62 (iQ .lss 3 61 0)] (iD 62 (iS [iA 2 (iO false)] .ret) .skip)) (.seq (iS [iA 63 (iM 8),iA 64 (iM 7),iA 65 (iP .neq 3 63 64)] (iD 65 (iS [iA 2 (iO false)] .ret) .skip)) (iS [iA 2 (iO true)] .ret)))))))))))))))))
theorem zo:fnC Try.prog Try.f4=some (qV,[.t 2],66):=by kernel_rfl
theorem jnA (b0:ByteArray):kg Try.prog 4 [.c (.val (.string b0))] (.c (.val (.bool true))):=by
 refine jr Try.func4 zo (by simp) ?_
 unfold qV;simp only [go_sem,jd,jq,je,ja,jc,jk,bne_self_eq_false,beq_self_eq_true];intros;by_cases hbig:(1048576:Int)<(b0.size:Int)
 ·simp only [go_sem,jd,jq,je,ja,jc,jk,bne_self_eq_false,beq_self_eq_true,hbig]
 have hb0:b0.size≤1048576:=by omega
 simp only [go_sem,jd,jq,je,ja,jc,jk,bne_self_eq_false,beq_self_eq_true,hbig];intros;have hq0:jf6 ((vA b0).1)≤2000000:=by have:=jjr b0 hb0;omega
 have pS:=jfQ b0 hb0;have pI:=jfV b0 hb0;generalize (vA b0).1=r0 at*;have hcr0:=b_nts r0;have hsr0:r0.length≤jf6 r0:=Nat.le_add_right _ _;generalize (((vA b0).2:Nat):Int)=r1 at*;refine jb (pS) (by simp only [go_sem,jd,jq,je,ja,jc,jk,bne_self_eq_false,beq_self_eq_true,hbig]) fun η1=>?_
 simp only [go_sem,jd,jq,je,ja,jc,jk,bne_self_eq_false,beq_self_eq_true,hbig];intros;refine jb (pI) (by simp only [go_sem,jd,jq,je,ja,jc,jk,bne_self_eq_false,beq_self_eq_true,hbig]) fun η2=>?_
 simp only [go_sem,jd,jq,je,ja,jc,jk,bne_self_eq_false,beq_self_eq_true,hbig];intros;refine jb (jh4 r0 r0) (by simp only [go_sem,jd,jq,je,ja,jc,jk,bne_self_eq_false,beq_self_eq_true,hbig]) fun η3=>?_
 simp only [go_sem,jd,jq,je,ja,jc,jk,bne_self_eq_false,beq_self_eq_true,hbig];intros;refine juC (k:=1) (r:=1+((jP cNt r0:Nat):Int)) (dd:=ke r0) (dd':=ke (mkL jnL cNt r0 1)) ⟨_,Try.func15,by kernel_rfl,by kernel_rfl⟩ (fun B w v S h hF=>jjv r0 1 v S B w h hF (by omega) (by omega) (by omega)) ?_
 have hm4:¬(1+((jP cNt r0:Nat):Int)<0):=by omega
 simp only [go_sem,jd,jq,je,ja,jc,jk,bne_self_eq_false,beq_self_eq_true,hbig,hm4];rintro η4 hm4h0;intros;refine jb (je7 r0 1 (by omega) (by omega) (by omega)) (by simp only [go_sem,jd,jq,je,ja,jc,jk,bne_self_eq_false,beq_self_eq_true,hbig,hm4,hm4h0]) fun η5=>?_
 simp only [go_sem,jd,jq,je,ja,jc,jk,bne_self_eq_false,beq_self_eq_true,hbig,hm4,hm4h0];intros;refine jb (pI) (by simp only [go_sem,jd,jq,je,ja,jc,jk,bne_self_eq_false,beq_self_eq_true,hbig,hm4,hm4h0]) fun η6=>?_
 simp only [go_sem,jd,jq,je,ja,jc,jk,bne_self_eq_false,beq_self_eq_true,hbig,hm4,hm4h0];intros;refine jb (jh4 r0 r0) (by simp only [go_sem,jd,jq,je,ja,jc,jk,bne_self_eq_false,beq_self_eq_true,hbig,hm4,hm4h0]) fun η7=>?_
 simp only [go_sem,jd,jq,je,ja,jc,jk,bne_self_eq_false,beq_self_eq_true,hbig,hm4,hm4h0];intros;refine jb (je7 r0 1 (by omega) (by omega) (by omega)) (by simp only [go_sem,jd,jq,je,ja,jc,jk,bne_self_eq_false,beq_self_eq_true,hbig,hm4,hm4h0]) fun η8=>?_
 simp only [go_sem,jd,jq,je,ja,jc,jk,bne_self_eq_false,beq_self_eq_true,hbig,hm4,hm4h0]
end Go.Proofs.Ytmnpailnelmpiaa
