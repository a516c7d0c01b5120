/- Parts. -/
import Derived.Test.YtmnpailnelmpiaaQBnd
import Derived.Test.YtmnpailnelmpiaaQReadL
set_option linter.unusedSimpArgs false
set_option linter.unusedVariables false
set_option maxHeartbeats 2000000
set_option maxRecDepth 100000
namespace Go.Proofs.Ytmnpailnelmpiaa
open Go.RowKit Go.Sort
def qL:C:=iS [iA 2 (iO false)] (.seq (iS [iA 11 (iM 0),iA 12 (.len true (.t 11)),iA 13 (iQ .gtr 3 12 1048576)] (iD 13 (iS [iA 2 (iO true)] .ret) .skip)) (iS [iA 15 (iM 0),iA 16 (.call 17 [.t 15]),iA 14 (iM 16),iA 17 (iE 14 0),iA 18 (iE 14 1),iA 3 (.alloc 42 [.int .i64 0,.int .i64 0,.slice none 0 0,.slice none 0 0]),iC (.st 4 [none,none,some (1,74),some (8,78)] (.t 3) (.t 17)),iA 4 (iM 18)] (iS [iA 20 (iM 0),iA 21 (.call 18 [.t 20]),iA 19 (iM 21),iA 22 (iE 19 0),iA 23 (iE 19 1),iA 5 (.alloc 42 [.int .i64 0,.int .i64 0,.slice none 0 0,.slice none 0 0]),iC (.st 4 [none,none,some (1,74),some (8,78)] (.t 5) (.t 22)),iA 6 (iM 23)] (.seq (iS [iA 24 (iT 4 5),iA 25 (iT 4 3),iA 26 (.call 19 [.t 24,.t 25]),iA 27 (iU 26),iA 28 (iM 27),iB 29 28 false (iM 6),iB 30 28 false (iM 4),iB 31 28 false (.beq true (.t 29) (.t 30)),iA 32 (.pick (.t 28) (.c (.bool true)) (.t 31))] (iD 32 (iS [iA 2 (iO false)] .ret) .skip)) (iS [iA 7 (iN 1)] (iS [iA 33 (iT 4 5),iA 34 (iM 7),iA 35 (.call 20 [.t 33,.t 34]),iA 7 (iM 35)] (iS [iA 8 (iN 1)] (iS [iA 36 (iT 4 5),iA 37 (iM 8),iA 38 (.call 21 [.t 36,.t 37]),iA 8 (iM 38)] (.seq (iS [iA 39 (iM 8),iA 40 (iQ .lss 3 39 0)] (iD 40 (iS [iA 2 (iO false)] .ret) .skip)) (.seq (iS [iA 41 (iM 8),iA 42 (iM 7),iA 43 (iP .neq 3 41 42)] (iD 43 (iS [iA 2 (iO false)] .ret) .skip)) (iS [iA 45 (iM 0),iA 46 (.call 18 [.t 45]),iA 44 (iM 46),iA 47 (iE 44 0),iA 48 (iE 44 1),iA 9 (.alloc 42 [.int .i64 0,.int .i64 0,.slice none 0 0,.slice none 0 0]),iC (.st 4 [none,none,some (1,74),some (8,78)] (.t 9) (.t 47)),iA 10 (iM 48)] (.seq (iS [iA 49 (iT 4 9),iA 50 (iT 4 3),iA 51 (.call 19 [.t 49,.t 50]),iA 52 (iU 51),iA 53 (iM 52),iB 54 53 false (iM 10),iB 55 53 false (iM 4),iB 56 53 false (.beq true (.t 54) (.t 55)),iA 57 (.pick (.t 53) (.c (.bool true)) (.t 56))] (iD 57 (iS [iA 2 (iO false)] .ret) .skip)) (iS [iA 8 (iN 1)] (iS [iA 58 (iT 4 5),iA 59 (iM 8),iA 60 (.call 21 [.t 58,.t 59]),iA 8 (iM 60)] (.seq (iS [iA 61 (iM 8),iA 62 (iQ .lss 3 61 0)] (iD 62 (iS [iA 2 (iO false)] .ret) .skip)) (.seq (iS [iA 63 (iM 8),iA 64 (iM 7),iA 65 (iP .neq 3 63 64)] (iD 65 (iS [iA 2 (iO false)] .ret) .skip)) (iS [iA 2 (iO true)] .ret)))))))))))))))))
theorem vZ:fnC Try.prog Try.f5=some (qL,[.t 2],66):=by kernel_rfl
theorem jlv (b0:ByteArray):kg Try.prog 5 [.c (.val (.string b0))] (.c (.val (.bool true))):=by
 refine jr Try.func5 vZ (by simp) ?_
 unfold qL;simp only [go_sem,jd,jq,je,ja,jc,jk,bne_self_eq_false,beq_self_eq_true];intros;by_cases hbig:(1048576:Int)<(b0.size:Int)
 ·simp only [go_sem,jd,jq,je,ja,jc,jk,bne_self_eq_false,beq_self_eq_true,hbig]
 have hb0:b0.size≤1048576:=by omega
 simp only [go_sem,jd,jq,je,ja,jc,jk,bne_self_eq_false,beq_self_eq_true,hbig];intros;have hq0:kH ((jaf b0).1)≤2000000:=by have:=jmr b0;omega
 have pS:=jd0 b0 hb0;have pI:=jd2 b0 hb0;generalize (jaf b0).1=r0 at*;have hcr0:=b_yd r0;have hsr0:r0.shelf.length≤kH r0:=by simp only [kH,jeF];omega
 have hrr0:r0.runs.length≤kH r0:=by simp only [kH,jb2];omega
 generalize (jaf b0).2=r1 at*;refine jb (pS) (by simp only [go_sem,jd,jq,je,ja,jc,jk,bne_self_eq_false,beq_self_eq_true,hbig]) fun η1=>?_
 simp only [go_sem,jd,jq,je,ja,jc,jk,bne_self_eq_false,beq_self_eq_true,hbig];intros;refine jb (pI) (by simp only [go_sem,jd,jq,je,ja,jc,jk,bne_self_eq_false,beq_self_eq_true,hbig]) fun η2=>?_
 simp only [go_sem,jd,jq,je,ja,jc,jk,bne_self_eq_false,beq_self_eq_true,hbig];intros;refine jb (jku r0 r0) (by simp only [go_sem,jd,jq,je,ja,jc,jk,bne_self_eq_false,beq_self_eq_true,hbig]) fun η3=>?_
 simp only [go_sem,jd,jq,je,ja,jc,jk,bne_self_eq_false,beq_self_eq_true,hbig];intros;refine jky (k:=1) (r:=1+((cYd r0:Nat):Int)) (ds:=jd r0) (ds':=jd (jpW r0 1)) ⟨_,Try.func20,by kernel_rfl,by kernel_rfl⟩ (fun B w v S h hF=>jlJ r0 1 v S B w h hF (by decide) (by omega) (by omega) (by omega)) ?_
 have hm4:¬(1+((cYd r0:Nat):Int)<0):=by omega
 simp only [go_sem,jd,jq,je,ja,jc,jk,bne_self_eq_false,beq_self_eq_true,hbig,hm4];rintro η4 ⟨hm4h0,hm4h1⟩;intros;refine jb (jgj r0 1 (by decide) (by omega) (by omega) (by omega)) (by simp only [go_sem,jd,jq,je,ja,jc,jk,bne_self_eq_false,beq_self_eq_true,hbig,hm4,hm4h0,hm4h1]) fun η5=>?_
 simp only [go_sem,jd,jq,je,ja,jc,jk,bne_self_eq_false,beq_self_eq_true,hbig,hm4,hm4h0,hm4h1];intros;refine jb (pI) (by simp only [go_sem,jd,jq,je,ja,jc,jk,bne_self_eq_false,beq_self_eq_true,hbig,hm4,hm4h0,hm4h1]) fun η6=>?_
 simp only [go_sem,jd,jq,je,ja,jc,jk,bne_self_eq_false,beq_self_eq_true,hbig,hm4,hm4h0,hm4h1];intros;refine jb (jku r0 r0) (by simp only [go_sem,jd,jq,je,ja,jc,jk,bne_self_eq_false,beq_self_eq_true,hbig,hm4,hm4h0,hm4h1]) fun η7=>?_
 simp only [go_sem,jd,jq,je,ja,jc,jk,bne_self_eq_false,beq_self_eq_true,hbig,hm4,hm4h0,hm4h1];intros;refine jb (jgj r0 1 (by decide) (by omega) (by omega) (by omega)) (by simp only [go_sem,jd,jq,je,ja,jc,jk,bne_self_eq_false,beq_self_eq_true,hbig,hm4,hm4h0,hm4h1]) fun η8=>?_
 simp only [go_sem,jd,jq,je,ja,jc,jk,bne_self_eq_false,beq_self_eq_true,hbig,hm4,hm4h0,hm4h1]
end Go.Proofs.Ytmnpailnelmpiaa
