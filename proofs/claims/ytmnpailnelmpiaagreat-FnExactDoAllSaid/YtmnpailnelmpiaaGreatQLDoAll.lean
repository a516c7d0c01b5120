/- Parts. -/
import Derived.Test.YtmnpailnelmpiaaGreatQDatR
import Derived.Below
import Derived.OpenShut
set_option linter.unusedSimpArgs false
set_option linter.unusedVariables false
set_option maxHeartbeats 4000000
set_option maxRecDepth 100000
namespace Go.Proofs.YtmnpailnelmpiaaGreat
open Go.RowKit Go.Sort
def jao:C:=iS [iA 2 (.box 25 4 (.t 0)),iA 4 (iO false)] (iS [iA 5 (iN 1048576)] (iS [iA 17 (iT 4 2),iA 18 (iM 5),iA 19 (.call 28 [.t 17,.t 18]),iA 5 (iM 19)] (.seq (iS [iA 20 (iM 5),iA 21 (iQ .lss 3 20 0)] (iD 21 (iS [iA 4 (iO true)] .ret) .skip)) (iS [iA 22 (iM 1),iA 23 (iM 5),iA 24 (.call 37 [.t 22,.t 23]),iA 5 (iM 24)] (.seq (iS [iA 25 (iM 5),iA 26 (iQ .lss 3 25 0)] (iD 26 (iS [iA 4 (iO true)] .ret) .skip)) (iS [iA 28 (iT 4 2),iA 29 (.call 31 [.t 28]),iA 30 (iM 1),iA 31 (.call 39 [.t 30]),iA 32 (.call 38 [.t 29,.t 31]),iA 27 (iM 32),iA 33 (iE 27 0),iA 34 (iE 27 1),iA 6 (.alloc 37 [.int .i64 0,.int .i64 0,.slice none 0 0,.slice none 0 0]),iC (.st 4 [none,none,some (1,102),some (8,108)] (.t 6) (.t 33)),iA 7 (iM 34)] (iS [iA 35 (iT 4 2),iA 36 (.call 31 [.t 35]),iA 8 (.alloc 37 [.int .i64 0,.int .i64 0,.slice none 0 0,.slice none 0 0]),iC (.st 4 [none,none,some (1,102),some (8,108)] (.t 8) (.t 36))] (iS [iA 37 (iM 1),iA 38 (.call 39 [.t 37]),iA 9 (iM 38)] (iS [iA 40 (iT 4 8),iA 41 (iM 9),iA 42 (.call 40 [.t 40,.t 41]),iA 39 (iM 42),iA 43 (iE 39 0),iA 44 (iE 39 1),iA 10 (.alloc 37 [.int .i64 0,.int .i64 0,.slice none 0 0,.slice none 0 0]),iC (.st 4 [none,none,some (1,102),some (8,108)] (.t 10) (.t 43)),iA 11 (iM 44)] (.seq (iS [iA 45 (iT 4 10),iA 46 (iT 4 6),iA 47 (.call 25 [.t 45,.t 46]),iA 48 (iU 47),iA 49 (iM 48),iB 50 49 false (iM 11),iB 51 49 false (iM 7),iB 52 49 false (.call 41 [.t 50,.t 51]),iB 53 49 false (iU 52),iA 54 (.pick (.t 49) (.c (.bool true)) (.t 53))] (iD 54 (iS [iA 4 (iO false)] .ret) .skip)) (.seq (.seq (.dreg (T.pure 0 (iA 55 (iT 4 8)) (T.pure 1 (iA 56 (iT 4 2)) (T.alt (iA 57 (.call 31 [.t 56])) [0] (T.alt (iA 58 (.call 25 [.t 55,.t 57])) [] (T.pure 4 (iA 59 (iU 58)) T.done) T.stop) T.stop)))) (iD 59 (iS [iA 4 (iO false)] .ret) .skip)) (.seq (iS [iA 60 (iM 9),iA 61 (iM 1),iA 62 (.call 39 [.t 61]),iA 63 (.call 42 [.t 60,.t 62]),iA 64 (iU 63)] (iD 64 (iS [iA 4 (iO false)] .ret) .skip)) (iS [iA 12 (iN 1)] (iS [iA 65 (iT 4 8),iA 66 (iM 12),iA 67 (.call 26 [.t 65,.t 66]),iA 12 (iM 67)] (iS [iA 68 (iM 9),iA 69 (iM 12),iA 70 (.call 43 [.t 68,.t 69]),iA 12 (iM 70)] (.seq (iS [iA 71 (iM 12),iA 72 (iQ .lss 3 71 0),iA 73 (iM 72),iB 74 73 false (iT 4 10),iB 75 73 false (iT 4 6),iB 76 73 false (.call 25 [.t 74,.t 75]),iB 77 73 false (iU 76),iA 78 (.pick (.t 73) (.c (.bool true)) (.t 77)),iA 79 (iM 78),iB 80 79 false (iM 11),iB 81 79 false (iM 7),iB 82 79 false (.call 41 [.t 80,.t 81]),iB 83 79 false (iU 82),iA 84 (.pick (.t 79) (.c (.bool true)) (.t 83))] (iD 84 (iS [iA 4 (iO false)] .ret) .skip)) (iS [iA 13 (iN 1)] (iS [iA 85 (iT 4 10),iA 86 (iM 13),iA 87 (.call 26 [.t 85,.t 86]),iA 13 (iM 87)] (iS [iA 88 (iM 11),iA 89 (iM 13),iA 90 (.call 44 [.t 88,.t 89]),iA 13 (iM 90)] (iS [iA 14 (iN 1)] (iS [iA 91 (iT 4 10),iA 92 (iM 14),iA 93 (.call 27 [.t 91,.t 92]),iA 14 (iM 93)] (.seq (iS [iA 94 (iM 14),iA 95 (iQ .lss 3 94 0)] (iD 95 (iS [iA 4 (iO false)] .ret) .skip)) (iS [iA 96 (iM 11),iA 97 (iM 14),iA 98 (.call 45 [.t 96,.t 97]),iA 14 (iM 98)] (.seq (iS [iA 99 (iM 14),iA 100 (iQ .lss 3 99 0)] (iD 100 (iS [iA 4 (iO false)] .ret) .skip)) (.seq (iS [iA 101 (iM 14),iA 102 (iM 13),iA 103 (iP .neq 3 101 102)] (iD 103 (iS [iA 4 (iO false)] .ret) .skip)) (iS [iA 105 (iT 4 2),iA 106 (.call 31 [.t 105]),iA 107 (iM 1),iA 108 (.call 39 [.t 107]),iA 109 (.call 40 [.t 106,.t 108]),iA 104 (iM 109),iA 110 (iE 104 0),iA 111 (iE 104 1),iA 15 (.alloc 37 [.int .i64 0,.int .i64 0,.slice none 0 0,.slice none 0 0]),iC (.st 4 [none,none,some (1,102),some (8,108)] (.t 15) (.t 110)),iA 16 (iM 111)] (.seq (iS [iA 112 (iT 4 15),iA 113 (iT 4 6),iA 114 (.call 25 [.t 112,.t 113]),iA 115 (iU 114),iA 116 (iM 115),iB 117 116 false (iM 16),iB 118 116 false (iM 7),iB 119 116 false (.call 41 [.t 117,.t 118]),iB 120 116 false (iU 119),iA 121 (.pick (.t 116) (.c (.bool true)) (.t 120))] (iD 121 (iS [iA 4 (iO false)] .ret) .skip)) (iS [iA 14 (iN 1)] (iS [iA 122 (iT 4 10),iA 123 (iM 14),iA 124 (.call 27 [.t 122,.t 123]),iA 14 (iM 124)] (.seq (iS [iA 125 (iM 14),iA 126 (iQ .lss 3 125 0)] (iD 126 (iS [iA 4 (iO false)] .ret) .skip)) (iS [iA 127 (iM 11),iA 128 (iM 14),iA 129 (.call 45 [.t 127,.t 128]),iA 14 (iM 129)] (.seq (iS [iA 130 (iM 14),iA 131 (iQ .lss 3 130 0)] (iD 131 (iS [iA 4 (iO false)] .ret) .skip)) (.seq (iS [iA 132 (iM 14),iA 133 (iM 13),iA 134 (iP .neq 3 132 133)] (iD 134 (iS [iA 4 (iO false)] .ret) .skip)) (iS [iA 4 (iO true)] .ret))))))))))))))))))))))))))))))))))
theorem jbP:fnC Tryz.prog Tryz.f7=some (jao,[.t 4],135):=by kernel_rfl
theorem jxZ (b0:Yd) (b1:List Dd):ka Tryz.prog 7 [.agg (jb b0),.c (qb b1)] (.c (.val (.bool true))):=by
 refine jr Tryz.func7 jbP (by simp) ?_
 unfold jao;simp only [go_sem,jb,kD,jg,ja,jd,jf,bne_self_eq_false,beq_self_eq_true];intros;refine jc (jvv b0 (1048576) (by omega) (by omega)) (by simp only [go_sem,jb,kD,jg,ja,jd,jf,bne_self_eq_false,beq_self_eq_true]) fun η=>?_
 rcases kI (jt b0) (1048576) with ⟨hle0,hz0⟩|⟨hle0,hz0⟩;rotate_left
 ·simp only [go_sem,jb,kD,jg,ja,jd,jf,bne_self_eq_false,beq_self_eq_true,hz0]
 have ht0:jt b0≤2000000:=by omega
 have hn0:¬(1048576-(jt b0:Int)<0):=by omega
 simp only [go_sem,jb,kD,jg,ja,jd,jf,bne_self_eq_false,beq_self_eq_true,hz0,hn0];intros;refine jc (jsU b1 (1048576-(jt b0:Int)) (by omega) (by omega)) (by simp only [go_sem,jb,kD,jg,ja,jd,jf,bne_self_eq_false,beq_self_eq_true,hz0,hn0]) fun η=>?_
 rcases kI (ze b1) (1048576-(jt b0:Int)) with ⟨hle1,hz1⟩|⟨hle1,hz1⟩;rotate_left
 ·simp only [go_sem,jb,kD,jg,ja,jd,jf,bne_self_eq_false,beq_self_eq_true,hz0,hn0,hz1]
 have ht1:ze b1≤2000000:=by omega
 have hn1:¬(1048576-(jt b0:Int)-(ze b1:Int)<0):=by omega
 simp only [go_sem,jb,kD,jg,ja,jd,jf,bne_self_eq_false,beq_self_eq_true,hz0,hn0,hz1,hn1];intros;have hca0:=b_yd b0;have hsa0:b0.shelf.length≤jt b0:=by simp only [jt,vP];omega
 have hra0:b0.runs.length≤jt b0:=by simp only [jt,qA];omega
 have hca1:=b_dds b1;have hsa1:b1.length≤ze b1:=Nat.le_add_right _ _;have hq0:jt (doF b0 b1)≤2000000:=by have:=jeS b1 b0 (by omega);omega
 have hq1:List.length (jlC b0 b1)≤2000000:=by have:=jhZ b1 b0;omega
 have pS:=jmo b0 b1 (by omega) (by omega)
 have pI:=jms b0 b1 (by omega) (by omega)
 generalize doF b0 b1=r0 at*;have hcr0:=b_yd r0;have hsr0:r0.shelf.length≤jt r0:=by simp only [jt,vP];omega
 have hrr0:r0.runs.length≤jt r0:=by simp only [jt,qA];omega
 generalize jlC b0 b1=r1 at*;refine jc (jhS b0 (by omega)) (by simp only [go_sem,jb,kD,jg,ja,jd,jf,bne_self_eq_false,beq_self_eq_true,hz0,hn0,hz1,hn1]) fun η1=>?_
 simp only [go_sem,jb,kD,jg,ja,jd,jf,bne_self_eq_false,beq_self_eq_true,hz0,hn0,hz1,hn1];intros;refine jc (jey b1 (by omega)) (by simp only [go_sem,jb,kD,jg,ja,jd,jf,bne_self_eq_false,beq_self_eq_true,hz0,hn0,hz1,hn1]) fun η2=>?_
 simp only [go_sem,jb,kD,jg,ja,jd,jf,bne_self_eq_false,beq_self_eq_true,hz0,hn0,hz1,hn1];intros;refine jc (pS) (by simp only [go_sem,jb,kD,jg,ja,jd,jf,bne_self_eq_false,beq_self_eq_true,hz0,hn0,hz1,hn1]) fun η3=>?_
 simp only [go_sem,jb,kD,jg,ja,jd,jf,bne_self_eq_false,beq_self_eq_true,hz0,hn0,hz1,hn1];intros;refine jc (jhS b0 (by omega)) (by simp only [go_sem,jb,kD,jg,ja,jd,jf,bne_self_eq_false,beq_self_eq_true,hz0,hn0,hz1,hn1]) fun η4=>?_
 simp only [go_sem,jb,kD,jg,ja,jd,jf,bne_self_eq_false,beq_self_eq_true,hz0,hn0,hz1,hn1];intros;refine jc (jey b1 (by omega)) (by simp only [go_sem,jb,kD,jg,ja,jd,jf,bne_self_eq_false,beq_self_eq_true,hz0,hn0,hz1,hn1]) fun η5=>?_
 simp only [go_sem,jb,kD,jg,ja,jd,jf,bne_self_eq_false,beq_self_eq_true,hz0,hn0,hz1,hn1];intros;refine jc (pI) (by simp only [go_sem,jb,kD,jg,ja,jd,jf,bne_self_eq_false,beq_self_eq_true,hz0,hn0,hz1,hn1]) fun η6=>?_
 simp only [go_sem,jb,kD,jg,ja,jd,jf,bne_self_eq_false,beq_self_eq_true,hz0,hn0,hz1,hn1];intros;refine jc (jhT r0 r0) (by simp only [go_sem,jb,kD,jg,ja,jd,jf,bne_self_eq_false,beq_self_eq_true,hz0,hn0,hz1,hn1]) fun η7=>?_
 simp only [go_sem,jb,kD,jg,ja,jd,jf,bne_self_eq_false,beq_self_eq_true,hz0,hn0,hz1,hn1];intros;refine jc (jfX r1 r1 (by omega)) (by simp only [go_sem,jb,kD,jg,ja,jd,jf,bne_self_eq_false,beq_self_eq_true,hz0,hn0,hz1,hn1]) fun η8=>?_
 simp only [go_sem,jb,kD,jg,ja,jd,jf,bne_self_eq_false,beq_self_eq_true,hz0,hn0,hz1,hn1];intros;refine jc (jhS b0 (by omega)) (by simp only [go_sem,jb,kD,jg,ja,jd,jf,bne_self_eq_false,beq_self_eq_true,hz0,hn0,hz1,hn1]) fun η9=>?_
 simp only [go_sem,jb,kD,jg,ja,jd,jf,bne_self_eq_false,beq_self_eq_true,hz0,hn0,hz1,hn1];intros;refine jc (jhT b0 b0) (by simp only [go_sem,jb,kD,jg,ja,jd,jf,bne_self_eq_false,beq_self_eq_true,hz0,hn0,hz1,hn1]) fun η10=>?_
 simp only [go_sem,jb,kD,jg,ja,jd,jf,bne_self_eq_false,beq_self_eq_true,hz0,hn0,hz1,hn1];intros;refine jc (jey b1 (by omega)) (by simp only [go_sem,jb,kD,jg,ja,jd,jf,bne_self_eq_false,beq_self_eq_true,hz0,hn0,hz1,hn1]) fun η11=>?_
 simp only [go_sem,jb,kD,jg,ja,jd,jf,bne_self_eq_false,beq_self_eq_true,hz0,hn0,hz1,hn1];intros;refine jc (jsZ b1 b1) (by simp only [go_sem,jb,kD,jg,ja,jd,jf,bne_self_eq_false,beq_self_eq_true,hz0,hn0,hz1,hn1]) fun η12=>?_
 simp only [go_sem,jb,kD,jg,ja,jd,jf,bne_self_eq_false,beq_self_eq_true,hz0,hn0,hz1,hn1];intros;refine jph (k:=1) (r:=1+((cYd b0:Nat):Int)) (ds:=jb b0) (ds':=jb (juD b0 1)) ⟨_,Tryz.func26,by kernel_rfl,by kernel_rfl⟩ (fun B w v S h hF=>jkd b0 1 v S B w h hF (by decide) (by omega) (by omega) (by omega)) ?_
 have hm13:¬(1+((cYd b0:Nat):Int)<0):=by omega
 simp only [go_sem,jb,kD,jg,ja,jd,jf,bne_self_eq_false,beq_self_eq_true,hz0,hn0,hz1,hn1,hm13];rintro η13 ⟨hm13h0,hm13h1⟩;intros;refine jwR (k:=1+((cYd b0:Nat):Int)) (r:=1+((cYd b0:Nat):Int)+((kj cDd b1:Nat):Int)) (dd:=qb b1) (dd':=qb (mkL jx8 cDd b1 (1+((cYd b0:Nat):Int)))) ⟨_,Tryz.func43,by kernel_rfl,by kernel_rfl⟩ (fun B w v S h hF=>jn9 b1 (1+((cYd b0:Nat):Int)) v S B w h hF (by omega) (by omega) (by omega)) ?_
 have hm14:¬(1+((cYd b0:Nat):Int)+((kj cDd b1:Nat):Int)<0):=by omega
 simp only [go_sem,jb,kD,jg,ja,jd,jf,bne_self_eq_false,beq_self_eq_true,hz0,hn0,hz1,hn1,hm13,hm13h0,hm13h1,hm14];rintro η14 hm14h0;intros;refine jc (jhT r0 r0) (by simp only [go_sem,jb,kD,jg,ja,jd,jf,bne_self_eq_false,beq_self_eq_true,hz0,hn0,hz1,hn1,hm13,hm13h0,hm13h1,hm14,hm14h0]) fun η15=>?_
 simp only [go_sem,jb,kD,jg,ja,jd,jf,bne_self_eq_false,beq_self_eq_true,hz0,hn0,hz1,hn1,hm13,hm13h0,hm13h1,hm14,hm14h0];intros;refine jc (jfX r1 r1 (by omega)) (by simp only [go_sem,jb,kD,jg,ja,jd,jf,bne_self_eq_false,beq_self_eq_true,hz0,hn0,hz1,hn1,hm13,hm13h0,hm13h1,hm14,hm14h0]) fun η16=>?_
 simp only [go_sem,jb,kD,jg,ja,jd,jf,bne_self_eq_false,beq_self_eq_true,hz0,hn0,hz1,hn1,hm13,hm13h0,hm13h1,hm14,hm14h0];intros;refine jph (k:=1) (r:=1+((cYd r0:Nat):Int)) (ds:=jb r0) (ds':=jb (juD r0 1)) ⟨_,Tryz.func26,by kernel_rfl,by kernel_rfl⟩ (fun B w v S h hF=>jkd r0 1 v S B w h hF (by decide) (by omega) (by omega) (by omega)) ?_
 have hm17:¬(1+((cYd r0:Nat):Int)<0):=by omega
 simp only [go_sem,jb,kD,jg,ja,jd,jf,bne_self_eq_false,beq_self_eq_true,hz0,hn0,hz1,hn1,hm13,hm13h0,hm13h1,hm14,hm14h0,hm17];rintro η17 ⟨hm17h0,hm17h1⟩;intros;refine jwR (k:=1+((cYd r0:Nat):Int)) (r:=1+((cYd r0:Nat):Int)+((4*r1.length:Nat):Int)) (dd:=qp r1) (dd':=qp (mkR jtd 4 r1.length (1+((cYd r0:Nat):Int)))) ⟨_,Tryz.func44,by kernel_rfl,by kernel_rfl⟩ (fun B w v S h hF=>jmy r1 (1+((cYd r0:Nat):Int)) v S B w h hF (by omega) (by omega)) ?_
 have hm18:¬(1+((cYd r0:Nat):Int)+((4*r1.length:Nat):Int)<0):=by omega
 simp only [go_sem,jb,kD,jg,ja,jd,jf,bne_self_eq_false,beq_self_eq_true,hz0,hn0,hz1,hn1,hm13,hm13h0,hm13h1,hm14,hm14h0,hm17,hm17h0,hm17h1,hm18];rintro η18 hm18h0;intros;refine jc (jj9 r0 1 (by decide) (by omega) (by omega) (by omega)) (by simp only [go_sem,jb,kD,jg,ja,jd,jf,bne_self_eq_false,beq_self_eq_true,hz0,hn0,hz1,hn1,hm13,hm13h0,hm13h1,hm14,hm14h0,hm17,hm17h0,hm17h1,hm18,hm18h0]) fun η19=>?_
 simp only [go_sem,jb,kD,jg,ja,jd,jf,bne_self_eq_false,beq_self_eq_true,hz0,hn0,hz1,hn1,hm13,hm13h0,hm13h1,hm14,hm14h0,hm17,hm17h0,hm17h1,hm18,hm18h0];intros;refine jc (jgJ r1.length (1+((cYd r0:Nat):Int)) (by omega) (by omega)) (by simp only [go_sem,jb,kD,jg,ja,jd,jf,bne_self_eq_false,beq_self_eq_true,hz0,hn0,hz1,hn1,hm13,hm13h0,hm13h1,hm14,hm14h0,hm17,hm17h0,hm17h1,hm18,hm18h0]) fun η20=>?_
 simp only [go_sem,jb,kD,jg,ja,jd,jf,bne_self_eq_false,beq_self_eq_true,hz0,hn0,hz1,hn1,hm13,hm13h0,hm13h1,hm14,hm14h0,hm17,hm17h0,hm17h1,hm18,hm18h0];intros;refine jc (jhS b0 (by omega)) (by simp only [go_sem,jb,kD,jg,ja,jd,jf,bne_self_eq_false,beq_self_eq_true,hz0,hn0,hz1,hn1,hm13,hm13h0,hm13h1,hm14,hm14h0,hm17,hm17h0,hm17h1,hm18,hm18h0]) fun η21=>?_
 simp only [go_sem,jb,kD,jg,ja,jd,jf,bne_self_eq_false,beq_self_eq_true,hz0,hn0,hz1,hn1,hm13,hm13h0,hm13h1,hm14,hm14h0,hm17,hm17h0,hm17h1,hm18,hm18h0];intros;refine jc (jey b1 (by omega)) (by simp only [go_sem,jb,kD,jg,ja,jd,jf,bne_self_eq_false,beq_self_eq_true,hz0,hn0,hz1,hn1,hm13,hm13h0,hm13h1,hm14,hm14h0,hm17,hm17h0,hm17h1,hm18,hm18h0]) fun η22=>?_
 simp only [go_sem,jb,kD,jg,ja,jd,jf,bne_self_eq_false,beq_self_eq_true,hz0,hn0,hz1,hn1,hm13,hm13h0,hm13h1,hm14,hm14h0,hm17,hm17h0,hm17h1,hm18,hm18h0];intros;refine jc (pI) (by simp only [go_sem,jb,kD,jg,ja,jd,jf,bne_self_eq_false,beq_self_eq_true,hz0,hn0,hz1,hn1,hm13,hm13h0,hm13h1,hm14,hm14h0,hm17,hm17h0,hm17h1,hm18,hm18h0]) fun η23=>?_
 simp only [go_sem,jb,kD,jg,ja,jd,jf,bne_self_eq_false,beq_self_eq_true,hz0,hn0,hz1,hn1,hm13,hm13h0,hm13h1,hm14,hm14h0,hm17,hm17h0,hm17h1,hm18,hm18h0];intros;refine jc (jhT r0 r0) (by simp only [go_sem,jb,kD,jg,ja,jd,jf,bne_self_eq_false,beq_self_eq_true,hz0,hn0,hz1,hn1,hm13,hm13h0,hm13h1,hm14,hm14h0,hm17,hm17h0,hm17h1,hm18,hm18h0]) fun η24=>?_
 simp only [go_sem,jb,kD,jg,ja,jd,jf,bne_self_eq_false,beq_self_eq_true,hz0,hn0,hz1,hn1,hm13,hm13h0,hm13h1,hm14,hm14h0,hm17,hm17h0,hm17h1,hm18,hm18h0];intros;refine jc (jfX r1 r1 (by omega)) (by simp only [go_sem,jb,kD,jg,ja,jd,jf,bne_self_eq_false,beq_self_eq_true,hz0,hn0,hz1,hn1,hm13,hm13h0,hm13h1,hm14,hm14h0,hm17,hm17h0,hm17h1,hm18,hm18h0]) fun η25=>?_
 simp only [go_sem,jb,kD,jg,ja,jd,jf,bne_self_eq_false,beq_self_eq_true,hz0,hn0,hz1,hn1,hm13,hm13h0,hm13h1,hm14,hm14h0,hm17,hm17h0,hm17h1,hm18,hm18h0];intros;refine jc (jj9 r0 1 (by decide) (by omega) (by omega) (by omega)) (by simp only [go_sem,jb,kD,jg,ja,jd,jf,bne_self_eq_false,beq_self_eq_true,hz0,hn0,hz1,hn1,hm13,hm13h0,hm13h1,hm14,hm14h0,hm17,hm17h0,hm17h1,hm18,hm18h0]) fun η26=>?_
 simp only [go_sem,jb,kD,jg,ja,jd,jf,bne_self_eq_false,beq_self_eq_true,hz0,hn0,hz1,hn1,hm13,hm13h0,hm13h1,hm14,hm14h0,hm17,hm17h0,hm17h1,hm18,hm18h0];intros;refine jc (jgJ r1.length (1+((cYd r0:Nat):Int)) (by omega) (by omega)) (by simp only [go_sem,jb,kD,jg,ja,jd,jf,bne_self_eq_false,beq_self_eq_true,hz0,hn0,hz1,hn1,hm13,hm13h0,hm13h1,hm14,hm14h0,hm17,hm17h0,hm17h1,hm18,hm18h0]) fun η27=>?_
 simp only [go_sem,jb,kD,jg,ja,jd,jf,bne_self_eq_false,beq_self_eq_true,hz0,hn0,hz1,hn1,hm13,hm13h0,hm13h1,hm14,hm14h0,hm17,hm17h0,hm17h1,hm18,hm18h0]
open Go.ChangeShapes Go.WideShapes Go.ChangeAt Go.RowKit
theorem own:ownKnob Tryz.prog.godebug=none:=by kernel_rfl
theorem laid:laidOutB Tryz.prog=true:=by kernel_rfl
section
variable {H:Type} {enc:TypeId×Value→H} {P:Program}
theorem jqr {f:Func} {s:ChangeSpec} {apart kr handsOn again:Bool} {W W':World} {args:Array Value} {v:Value} {ds gs:List (DataW H)} {before pa pv:List MemPlace}
 (hW:DataW.Whole enc P f.params.toList s.vars apart W args.toList ds gs before)
 (hres:∀(b:Nat) (sp:Nat→Bool) (hd:Bool),DataW.TrodAll enc P W' b sp hd f.resultTypes.toList (v.resultList f.resultTypes.size) (s.fn H (ds++gs)).results [])
 (hargs:∀sp:Nat→Bool,(∀p∈before,sp p.block=true)→DataW.TrodAll enc P W' 0 sp true f.params.toList args.toList (s.fn H (ds++gs)).args pa)
 (hvars:∀sp:Nat→Bool,(∀p∈before,sp p.block=true)→DataW.TrodVars enc P W' sp s.vars (s.fn H (ds++gs)).vars pv)
 (hps:before=pa++pv) (hb:Below W.heap.size W W')
 (hok:∀(j:Nat) (t:TypeId) (r:Value),f.resultTypes[j]?=some t→(v.resultList f.resultTypes.size)[j]?=some r→Value.okWide P W' .any 0 t r):
 s.post enc P f apart kr handsOn again W args v W':=by
 have hlt:∀p∈before,p.block<W.heap.size:=fun p hp=>hW.lt p hp
 have hold:∀p∈before,(fun b=>decide (b<W.heap.size)) p.block=true:=fun p hp=>by simpa using hlt p hp
 refine ⟨ds,gs,before,[],pa,pv,hW,hres _ _ _,hargs _ hold,hvars _ hold,World.keptBut_mono (fun p hp=>⟨hp,?_⟩) (hb.frame (· ∈before)),fun _=>?_⟩
 ·rw [hps,List.mem_append] at hp
  exact Or.inr hp
 ·obtain ⟨_,_,_,_,_,hz,hn⟩:=hW
  refine ⟨hok,_,_,([]++pa)++pv,⟨[]++pa,pv,trodAll_append (hargs _ (fun _ _=>rfl)) (hres _ _ _),hvars _ (fun _ _=>rfl),rfl,?_,?_⟩,?_⟩
  ·intro b off hp
   have hin:MemPlace.cell b off∈before:=by rw [hps];simpa using hp
   rw [hb.frozen (hlt _ hin)];exact hz b off hin
  ·intro ha
   have:=hn ha;rw [hps] at this;simpa using this
  ·intro p hp _
   rw [hps];simpa using hp
theorem jnq {t:TypeId} (hl:laidOutB P=true) (hr:P.readableRec t=true) (hrow:t<P.types.size) {W W':World} {v:Value} {d:DataW H} {ps:List MemPlace} {sp:Nat→Bool}
 (h:DataW.Trod enc P W 0 (fun _=>true) true t v d ps) (hb:Below W.heap.size W W') (hlt:∀x∈ps,x.block<W.heap.size) (hsp:∀x∈ps,sp x.block=true):
 DataW.Trod enc P W' 0 sp true t v d ps:=
 WideElems.Trod_stays hl hr hrow h (fun x hx=>hb.same (hlt x hx)) (fun x hx=>hsp x hx)
end
theorem js5 {H:Type} {enc:TypeId×Value→H} {P:Program} {t:TypeId} {α:Type} {E:α→List D} {X:α→Prop} (hra:ReadsAs P t E X) {fs:Array Field} (ht:P.underlying t=some (.struct fs))
 {W:World} {v:Value} {d:DataW H} {p:List MemPlace} {base:Nat} {spare:Nat→Bool} {held:Bool} {r:_root_.Go.Reach} {b0:Nat} (hv:Value.okWide P W r b0 t v) (h:DataW.Trod enc P W base spare held t v d p):
 ∃x,X x∧∃S,AggRep W false (E x) v S:=by
 obtain ⟨cs,rfl,_⟩:=okWide_struct ht hv;obtain ⟨fuel,hf⟩:=h;obtain ⟨x,hx,S,hr⟩:=hra _ _ _ _ _ _ _ _ _ hf;exact ⟨x,hx,S,_,by simp [Value.cells],hr⟩
theorem jx1 {H:Type} {enc:TypeId×Value→H} {P:Program} {t e:TypeId} {α:Type} {E:α→D} {X:α→Prop} (hra:ReadsAs P t (fun x=>[E x]) X) (ht:P.underlying t=some (.slice e))
 {W:World} {v:Value} {d:DataW H} {p:List MemPlace} {base:Nat} {spare:Nat→Bool} {held:Bool} {r:_root_.Go.Reach} {b0:Nat} (hv:Value.okWide P W r b0 t v) (h:DataW.Trod enc P W base spare held t v d p):
 ∃x,X x∧∃S,Rep W false (E x) v S:=by
 obtain ⟨a,len,cap,rfl⟩:=okWide_slice ht hv;obtain ⟨fuel,hf⟩:=h;obtain ⟨x,hx,S,hr⟩:=hra _ _ _ _ _ _ _ _ _ hf;obtain ⟨u,us,S1,S2,h1,rfl,h2,rfl,rfl⟩:=hr;have h1':[Value.slice a len cap]=[u]:=h1;cases h1';exact ⟨x,hx,S1,h2⟩
theorem jtj {P:Program} {f:FuncId} {vs:List View} {args:List Value} {w:World} (h:ka P f vs (.c (.val (.bool true)))) (hv:zA w vs args):
 Calls P f args.toArray w fun e w'=>e=.returned (.bool true)∧Below w.heap.size w w':=
 (h.2 w args hv).mono fun e w' ⟨v,S,he,hr,_,hb⟩=>⟨by rw [he,show v=_ from hr.1],hb⟩
end Go.Proofs.YtmnpailnelmpiaaGreat
namespace Go.Proofs.YtmnpailnelmpiaaGreat.lawDoAll
open Go.ChangeShapes Go.WideShapes Go.ChangeAt Go.RowKit
set_option maxRecDepth 100000 in
theorem lifted (os:Os) (started:os.Started) (H:Type) (enc:TypeId×Value→H):
 ReturnsInHanded {} Tryz.checked os 7 .any (Rows.fnExactDoAllSpec.pre6 enc Tryz.prog Tryz.f7 Rows.fnExactDoAllRow.domain false) (Rows.fnExactDoAllSpec.post enc Tryz.prog Tryz.f7 false true false false):=by
 refine returnsInHanded_of_change (C:=Tryz.checked) own started (by kernel_rfl) Tryz.func7
  (ChangeSpec.witness6 (enc:=enc) (C:=Tryz.checked) false ⟨#[],#[.agg #[.int .i64 0,.int .i64 0,.slice none 0 0,.slice none 0 0],.slice none 0 0],[]⟩ 8 (by kernel_rfl) (by kernel_rfl) (by kernel_rfl) (by kernel_rfl)) ?_
 intro W base args ds gs before hval0 hW hcnd _;have hval:∀(j:Nat) t v,Tryz.f7.params[j]?=some t→args[j]?=some v→Value.okWide Tryz.prog W .any base t v:=hval0;have hW':=hW;obtain ⟨p,q,hA0,hV,rfl,hfz,hnd⟩:=hW;have hA:DataW.TrodAll enc Tryz.prog W 0 (fun _=>true) true Tryz.f7.params.toList args.toList ds p:=hA0
 rw [Tryz.params7] at hA hval;obtain ⟨v0,vs0,d0,ds0,p0,q0,hargs,rfl,rfl,h0,r0⟩:=trodAll_cons hA;obtain ⟨v1,vs1,d1,ds1,p1,q1,rfl,rfl,rfl,h1,r1⟩:=trodAll_cons r0;obtain ⟨rfl,rfl,rfl⟩:=trodAll_nil r1;obtain rfl:args=#[v0,v1]:=by cases args;simp_all
 obtain ⟨rfl,rfl⟩:=trodVars_none hV;obtain ⟨b0,-,S0,hy0⟩:=js5 rYard Tryz.underlying25 (hval 0 _ v0 rfl rfl) h0;obtain ⟨b1,-,S1,hy1⟩:=jx1 jAd Tryz.underlying79 (hval 1 _ v1 rfl rfl) h1;clear hA0 hval0;simp only [List.append_nil] at hW';refine (jtj (args:=[v0,v1]) (jxZ b0 b1) ⟨_,_,rfl,⟨_,hy0⟩,⟨_,_,rfl,⟨_,hy1⟩,rfl⟩⟩).mono fun e W' ⟨he,hb⟩=>?_
 subst he;have hlt1:∀x∈p1,x.block<W.heap.size:=fun x hx=>hW'.lt x (by simp [hx])
 have hlt0:∀x∈p0,x.block<W.heap.size:=fun x hx=>hW'.lt x (by simp [hx])
 exact ⟨_,rfl,jqr (pa:=(p0++(p1++[]))) (pv:=[]) hW' (fun _ _ _=>trodAll_mk1 (shut_bool Tryz.underlying4 _)) (fun sp hsp=>(trodAll_cons_mk (jnq laid (by kernel_rfl) (of_decide_eq_true (by kernel_rfl)) h0 hb hlt0 (fun x hx=>hsp x (by simp [hx]))) (trodAll_cons_mk (jnq laid (by kernel_rfl) (of_decide_eq_true (by kernel_rfl)) h1 hb hlt1 (fun x hx=>hsp x (by simp [hx]))) trodAll_mk0))) (fun _ _=>rfl) (by simp) hb (ok_one (by kernel_rfl) rfl (okWide_bool_mk Tryz.underlying4 _))⟩
theorem proved:Rows.FnExactDoAllSaid:=
 OpenClaim.holds_of_wide 7 Tryz.f7 rfl rfl rfl rfl rfl rfl rfl ⟨rfl,rfl,rfl,rfl,rfl⟩ rfl rfl rfl rfl rfl (by as_aux_lemma=>kernel_rfl) Tryz.func7 (by unfold joinedFacts;(repeat' (with_reducible refine Bool.and_eq_true_iff.mpr ⟨?_,?_⟩));all_goals (as_aux_lemma=>kernel_rfl))
  (of_decide_eq_true (by as_aux_lemma=>kernel_rfl)) (by unfold Func.isWrapper;first|(rw [if_pos (by decide+kernel)];kernel_rfl)|(rw [if_neg (by decide+kernel)];exact ⟨rfl,rfl⟩))
  (fun os started H enc _=>lifted os started H enc)
end Go.Proofs.YtmnpailnelmpiaaGreat.lawDoAll
