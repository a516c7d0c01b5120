/- Parts. -/
import Derived.Test.YtmnpailnelmpiaaGreatQReadM
set_option linter.unusedSimpArgs false
set_option linter.unusedVariables false
set_option maxHeartbeats 2000000
set_option maxRecDepth 100000
namespace Go.Proofs.YtmnpailnelmpiaaGreat
open Go.RowKit Go.Sort
def zP:C:=iS [iA 2 (iO false)] (.seq (iS [iA 14 (iM 0),iA 15 (.len true (.t 14)),iA 16 (iQ .gtr 3 15 1048576)] (iD 16 (iS [iA 2 (iO true)] .ret) .skip)) (iS [iA 18 (iM 0),iA 19 (.call 23 [.t 18]),iA 17 (iM 19),iA 20 (iE 17 0),iA 21 (iE 17 1),iA 22 (iE 17 2),iA 3 (.alloc 37 [.int .i64 0,.int .i64 0,.slice none 0 0,.slice none 0 0]),iC (.st 4 [none,none,some (1,102),some (8,108)] (.t 3) (.t 20)),iA 4 (iM 21),iA 5 (iM 22)] (iS [iA 24 (iM 0),iA 25 (.call 24 [.t 24]),iA 23 (iM 25),iA 26 (iE 23 0),iA 27 (iE 23 1),iA 28 (iE 23 2),iA 6 (.alloc 37 [.int .i64 0,.int .i64 0,.slice none 0 0,.slice none 0 0]),iC (.st 4 [none,none,some (1,102),some (8,108)] (.t 6) (.t 26)),iA 7 (iM 27),iA 8 (iM 28)] (.seq (iS [iA 29 (iT 4 6),iA 30 (iT 4 3),iA 31 (.call 25 [.t 29,.t 30]),iA 32 (iU 31),iA 33 (iM 32),iB 34 33 false (iM 7),iB 35 33 false (iM 4),iB 36 33 false (iP .neq 3 34 35),iA 37 (.pick (.t 33) (.c (.bool true)) (.t 36)),iA 38 (iM 37),iB 39 38 false (iM 8),iB 40 38 false (iM 5),iB 41 38 false (.beq true (.t 39) (.t 40)),iA 42 (.pick (.t 38) (.c (.bool true)) (.t 41))] (iD 42 (iS [iA 2 (iO false)] .ret) .skip)) (iS [iA 9 (iN 1)] (iS [iA 43 (iT 4 6),iA 44 (iM 9),iA 45 (.call 26 [.t 43,.t 44]),iA 9 (iM 45)] (iS [iA 10 (iN 1)] (iS [iA 46 (iT 4 6),iA 47 (iM 10),iA 48 (.call 27 [.t 46,.t 47]),iA 10 (iM 48)] (.seq (iS [iA 49 (iM 10),iA 50 (iQ .lss 3 49 0)] (iD 50 (iS [iA 2 (iO false)] .ret) .skip)) (.seq (iS [iA 51 (iM 10),iA 52 (iM 9),iA 53 (iP .neq 3 51 52)] (iD 53 (iS [iA 2 (iO false)] .ret) .skip)) (iS [iA 55 (iM 0),iA 56 (.call 24 [.t 55]),iA 54 (iM 56),iA 57 (iE 54 0),iA 58 (iE 54 1),iA 59 (iE 54 2),iA 11 (.alloc 37 [.int .i64 0,.int .i64 0,.slice none 0 0,.slice none 0 0]),iC (.st 4 [none,none,some (1,102),some (8,108)] (.t 11) (.t 57)),iA 12 (iM 58),iA 13 (iM 59)] (.seq (iS [iA 60 (iT 4 11),iA 61 (iT 4 3),iA 62 (.call 25 [.t 60,.t 61]),iA 63 (iU 62),iA 64 (iM 63),iB 65 64 false (iM 12),iB 66 64 false (iM 4),iB 67 64 false (iP .neq 3 65 66),iA 68 (.pick (.t 64) (.c (.bool true)) (.t 67)),iA 69 (iM 68),iB 70 69 false (iM 13),iB 71 69 false (iM 5),iB 72 69 false (.beq true (.t 70) (.t 71)),iA 73 (.pick (.t 69) (.c (.bool true)) (.t 72))] (iD 73 (iS [iA 2 (iO false)] .ret) .skip)) (iS [iA 10 (iN 1)] (iS [iA 74 (iT 4 6),iA 75 (iM 10),iA 76 (.call 27 [.t 74,.t 75]),iA 10 (iM 76)] (.seq (iS [iA 77 (iM 10),iA 78 (iQ .lss 3 77 0)] (iD 78 (iS [iA 2 (iO false)] .ret) .skip)) (.seq (iS [iA 79 (iM 10),iA 80 (iM 9),iA 81 (iP .neq 3 79 80)] (iD 81 (iS [iA 2 (iO false)] .ret) .skip)) (iS [iA 2 (iO true)] .ret)))))))))))))))))
theorem jby:fnC Tryz.prog Tryz.f5=some (zP,[.t 2],82):=by kernel_rfl
theorem jtt (b0:ByteArray):jZ Tryz.prog 5 [.c (.val (.string b0))] (.c (.val (.bool true))):=by
 refine jr Tryz.func5 jby (by simp) ?_
 unfold zP;simp only [go_sem,jb,kf,jg,ja,jd,jf,bne_self_eq_false,beq_self_eq_true];intros;by_cases hbig:(1048576:Int)<(b0.size:Int)
 ·simp only [go_sem,jb,kf,jg,ja,jd,jf,bne_self_eq_false,beq_self_eq_true,hbig]
 have hb0:b0.size≤1048576:=by omega
 simp only [go_sem,jb,kf,jg,ja,jd,jf,bne_self_eq_false,beq_self_eq_true,hbig];intros;have hq0:jt ((zB b0).1)≤2000000:=by have:=jtP b0;omega
 have pS:=jkh b0 hb0;have pI:=jCp b0▸jkm b0 hb0;generalize (zB b0).1=r0 at*;have hcr0:=b_yd r0;have hsr0:r0.shelf.length≤jt r0:=by simp only [jt,vP];omega
 have hrr0:r0.runs.length≤jt r0:=by simp only [jt,qx];omega
 generalize (zB b0).2.1=r1 at*;generalize (zB b0).2.2=r2 at*;refine jc (pS) (by simp only [go_sem,jb,kf,jg,ja,jd,jf,bne_self_eq_false,beq_self_eq_true,hbig]) fun η1=>?_
 simp only [go_sem,jb,kf,jg,ja,jd,jf,bne_self_eq_false,beq_self_eq_true,hbig];intros;refine jc (pI) (by simp only [go_sem,jb,kf,jg,ja,jd,jf,bne_self_eq_false,beq_self_eq_true,hbig]) fun η2=>?_
 simp only [go_sem,jb,kf,jg,ja,jd,jf,bne_self_eq_false,beq_self_eq_true,hbig];intros;refine jc (jdY r0 r0) (by simp only [go_sem,jb,kf,jg,ja,jd,jf,bne_self_eq_false,beq_self_eq_true,hbig]) fun η3=>?_
 simp only [go_sem,jb,kf,jg,ja,jd,jf,bne_self_eq_false,beq_self_eq_true,hbig];intros;refine jnv (k:=1) (r:=1+((cYd r0:Nat):Int)) (ds:=jb r0) (ds':=jb (jws r0 1)) ⟨_,Tryz.func26,by kernel_rfl,by kernel_rfl⟩ (fun B w v S h hF=>jhF r0 1 v S B w h hF (by decide) (by omega) (by omega) (by omega)) ?_
 have hm4:¬(1+((cYd r0:Nat):Int)<0):=by omega
 simp only [go_sem,jb,kf,jg,ja,jd,jf,bne_self_eq_false,beq_self_eq_true,hbig,hm4];rintro η4 ⟨hm4h0,hm4h1⟩;intros;refine jc (jdX r0 1 (by decide) (by omega) (by omega) (by omega)) (by simp only [go_sem,jb,kf,jg,ja,jd,jf,bne_self_eq_false,beq_self_eq_true,hbig,hm4,hm4h0,hm4h1]) fun η5=>?_
 simp only [go_sem,jb,kf,jg,ja,jd,jf,bne_self_eq_false,beq_self_eq_true,hbig,hm4,hm4h0,hm4h1];intros;refine jc (pI) (by simp only [go_sem,jb,kf,jg,ja,jd,jf,bne_self_eq_false,beq_self_eq_true,hbig,hm4,hm4h0,hm4h1]) fun η6=>?_
 simp only [go_sem,jb,kf,jg,ja,jd,jf,bne_self_eq_false,beq_self_eq_true,hbig,hm4,hm4h0,hm4h1];intros;refine jc (jdY r0 r0) (by simp only [go_sem,jb,kf,jg,ja,jd,jf,bne_self_eq_false,beq_self_eq_true,hbig,hm4,hm4h0,hm4h1]) fun η7=>?_
 simp only [go_sem,jb,kf,jg,ja,jd,jf,bne_self_eq_false,beq_self_eq_true,hbig,hm4,hm4h0,hm4h1];intros;refine jc (jdX r0 1 (by decide) (by omega) (by omega) (by omega)) (by simp only [go_sem,jb,kf,jg,ja,jd,jf,bne_self_eq_false,beq_self_eq_true,hbig,hm4,hm4h0,hm4h1]) fun η8=>?_
 simp only [go_sem,jb,kf,jg,ja,jd,jf,bne_self_eq_false,beq_self_eq_true,hbig,hm4,hm4h0,hm4h1]
end Go.Proofs.YtmnpailnelmpiaaGreat
