/- Parts. -/
import Derived.Test.YtcehjhiglmifjaaGreatQRunD
set_option linter.unusedSimpArgs false
set_option linter.unusedVariables false
set_option maxHeartbeats 4000000
set_option maxRecDepth 100000
namespace Go.Proofs.YtcehjhiglmifjaaGreat
open Go.RowKit Go.Sort
def jfT:C:=iS [iA 2 (iO false)] (iS [iA 3 (iM 0),iA 4 (.call 68 [.t 3,.c (.int .i64 0),.c (.int .i64 1000000000)]),iA 2 (iM 4)] .ret)
theorem jhX:fnC Tryz.prog Tryz.f186=some (jfT,[.t 2],5):=by kernel_rfl
def jbT:C:=iS [iA 1 (.box 49 5 (.t 0)),iA 2 (iO false)] (iS [iA 3 (iF 0 1),iA 4 (iL 3),iA 5 (iQ .eql 3 4 0),iA 6 (iM 5),iB 7 6 true (iF 1 1),iB 8 6 true (iL 7),iB 9 6 true (iQ .eql 3 8 0),iA 10 (.pick (.t 6) (.t 9) (.c (.bool false))),iA 11 (iM 10),iB 12 11 true (iF 2 1),iB 13 11 true (iL 12),iB 14 11 true (iQ .eql 3 13 0),iA 15 (.pick (.t 11) (.t 14) (.c (.bool false))),iA 16 (iM 15),iB 17 16 true (iF 3 1),iB 18 16 true (iL 17),iB 19 16 true (iQ .eql 3 18 0),iA 20 (.pick (.t 16) (.t 19) (.c (.bool false))),iA 21 (iM 20),iB 22 21 true (iF 4 1),iB 23 21 true (iL 22),iB 24 21 true (iG 23),iB 25 21 true (iQ .eql 3 24 0),iA 26 (.pick (.t 21) (.t 25) (.c (.bool false))),iA 2 (iM 26)] .ret)
theorem jeI:fnC Tryz.prog Tryz.f188=some (jbT,[.t 2],27):=by kernel_rfl
def jdS:C:=iS [iA 1 (.box 49 5 (.t 0)),iA 2 (iO false)] (.seq (iS [iA 4 (iF 0 1),iA 5 (iL 4),iA 6 (.call 186 [.t 5]),iA 7 (iU 6),iA 8 (iM 7),iB 9 8 false (iF 1 1),iB 10 8 false (iL 9),iB 11 8 false (.call 186 [.t 10]),iB 12 8 false (iU 11),iA 13 (.pick (.t 8) (.c (.bool true)) (.t 12)),iA 14 (iM 13),iB 15 14 false (iF 2 1),iB 16 14 false (iL 15),iB 17 14 false (.call 186 [.t 16]),iB 18 14 false (iU 17),iA 19 (.pick (.t 14) (.c (.bool true)) (.t 18)),iA 20 (iM 19),iB 21 20 false (iF 3 1),iB 22 20 false (iL 21),iB 23 20 false (.call 186 [.t 22]),iB 24 20 false (iU 23),iA 25 (.pick (.t 20) (.c (.bool true)) (.t 24)),iA 26 (iM 25),iB 27 26 false (iF 4 1),iB 28 26 false (iL 27),iB 29 26 false (iG 28),iB 30 26 false (iQ .gtr 3 29 31),iA 31 (.pick (.t 26) (.c (.bool true)) (.t 30))] (iD 31 (iS [iA 2 (iO false)] .ret) .skip)) (.seq (iS [iA 3 (iN 0)] (.blk 0 (.loop (.seq (iS [iA 32 (iM 3),iA 33 (iF 4 1),iA 34 (iL 33),iA 35 (iG 34),iA 36 (iP .lss 3 32 35)] (iD 36 .skip (.exit 0))) (.seq (.blk 1 (iS [iA 39 (iF 4 1),iA 40 (iL 39),iA 41 (iM 3),iA 42 (iI 2 40 41),iA 43 (iF 0 42),iA 44 (iL 43),iA 45 (.call 186 [.t 44]),iA 46 (iU 45),iA 47 (iM 46),iB 48 47 false (iF 4 1),iB 49 47 false (iL 48),iB 50 47 false (iM 3),iB 51 47 false (iI 2 49 50),iB 52 47 false (iF 1 51),iB 53 47 false (iL 52),iB 54 47 false (.call 186 [.t 53]),iB 55 47 false (iU 54),iA 56 (.pick (.t 47) (.c (.bool true)) (.t 55))] (iD 56 (iS [iA 2 (iO false)] .ret) .skip))) (.reg [iA 37 (iM 3),iA 38 (iQ .add 3 37 1),iA 3 (iM 38)])))))) (iS [iA 2 (iO true)] .ret)))
theorem jgL:fnC Tryz.prog Tryz.f187=some (jdS,[.t 2],57):=by kernel_rfl
def jf4:C:=iS [iA 1 (.box 60 11 (.t 0)),iA 2 (iO false)] (.seq (iS [iA 6 (iF 0 1),iA 7 (iL 6),iA 8 (.call 68 [.t 7,.c (.int .i64 1),.c (.int .i64 8)]),iA 9 (iU 8)] (iD 9 (iS [iA 2 (iO false)] .ret) .skip)) (iS [iA 10 (iF 0 1),iA 11 (iL 10),iA 12 (iQ .eql 3 11 2),iA 3 (iM 12)] (iS [iA 13 (iF 0 1),iA 14 (iL 13),iA 15 (iQ .eql 3 14 3),iA 16 (iM 15),iB 17 16 false (iF 0 1),iB 18 16 false (iL 17),iB 19 16 false (iQ .eql 3 18 4),iA 20 (.pick (.t 16) (.c (.bool true)) (.t 19)),iA 4 (iM 20)] (iS [iA 21 (iM 3),iA 22 (iU 21),iA 23 (iM 22),iB 24 23 true (iF 0 1),iB 25 23 true (iL 24),iB 26 23 true (iQ .neq 3 25 5),iA 27 (.pick (.t 23) (.t 26) (.c (.bool false))),iA 28 (iM 27),iB 29 28 true (iF 0 1),iB 30 28 true (iL 29),iB 31 28 true (iQ .neq 3 30 8),iA 32 (.pick (.t 28) (.t 31) (.c (.bool false))),iA 5 (iM 32)] (.seq (iS [iA 33 (iM 5),iA 34 (iM 33),iB 35 34 true (iF 1 1),iB 36 34 true (iL 35),iB 37 34 true (.call 186 [.t 36]),iB 38 34 true (iU 37),iA 39 (.pick (.t 34) (.t 38) (.c (.bool false))),iA 40 (iM 39),iB 41 40 false (iM 5),iB 42 40 false (iU 41),iB 43 40 false (iM 42),iB 44 43 true (iF 1 1),iB 45 43 true (iL 44),iB 46 43 true (iQ .neq 3 45 0),iB 47 40 false (.pick (.t 43) (.t 46) (.c (.bool false))),iA 48 (.pick (.t 40) (.c (.bool true)) (.t 47)),iA 49 (iM 48),iB 50 49 false (iM 4),iB 51 49 false (iM 50),iB 52 51 true (iF 7 1),iB 53 51 true (iL 52),iB 54 51 true (.call 186 [.t 53]),iB 55 51 true (iU 54),iB 56 51 true (iM 55),iB 57 56 false (iF 8 1),iB 58 56 false (iL 57),iB 59 56 false (.call 186 [.t 58]),iB 60 56 false (iU 59),iB 61 51 true (.pick (.t 56) (.c (.bool true)) (.t 60)),iB 62 49 false (.pick (.t 51) (.t 61) (.c (.bool false))),iA 63 (.pick (.t 49) (.c (.bool true)) (.t 62)),iA 64 (iM 63),iB 65 64 false (iM 4),iB 66 64 false (iU 65),iB 67 64 false (iM 66),iB 68 67 true (iF 7 1),iB 69 67 true (iL 68),iB 70 67 true (iQ .neq 3 69 0),iB 71 67 true (iM 70),iB 72 71 false (iF 8 1),iB 73 71 false (iL 72),iB 74 71 false (iQ .neq 3 73 0),iB 75 67 true (.pick (.t 71) (.c (.bool true)) (.t 74)),iB 76 64 false (.pick (.t 67) (.t 75) (.c (.bool false))),iA 77 (.pick (.t 64) (.c (.bool true)) (.t 76)),iA 78 (iM 77),iB 79 78 false (iM 3),iB 80 78 false (iM 79),iB 81 80 true (iF 9 1),iB 82 80 true (iL 81),iB 83 80 true (.call 186 [.t 82]),iB 84 80 true (iU 83),iB 85 80 true (iM 84),iB 86 85 false (iF 10 1),iB 87 85 false (iL 86),iB 88 85 false (.call 186 [.t 87]),iB 89 85 false (iU 88),iB 90 80 true (.pick (.t 85) (.c (.bool true)) (.t 89)),iB 91 78 false (.pick (.t 80) (.t 90) (.c (.bool false))),iA 92 (.pick (.t 78) (.c (.bool true)) (.t 91)),iA 93 (iM 92),iB 94 93 false (iM 3),iB 95 93 false (iU 94),iB 96 93 false (iM 95),iB 97 96 true (iF 9 1),iB 98 96 true (iL 97),iB 99 96 true (iQ .neq 3 98 0),iB 100 96 true (iM 99),iB 101 100 false (iF 10 1),iB 102 100 false (iL 101),iB 103 100 false (iQ .neq 3 102 0),iB 104 96 true (.pick (.t 100) (.c (.bool true)) (.t 103)),iB 105 93 false (.pick (.t 96) (.t 104) (.c (.bool false))),iA 106 (.pick (.t 93) (.c (.bool true)) (.t 105))] (iD 106 (iS [iA 2 (iO false)] .ret) .skip)) (.seq (iS [iA 107 (iF 0 1),iA 108 (iL 107),iA 109 (iQ .eql 3 108 1)] (iD 109 (iS [iA 110 (iF 2 1),iA 111 (iT 5 110),iA 112 (.call 187 [.t 111]),iA 2 (iM 112)] .ret) .skip)) (iS [iA 113 (iF 2 1),iA 114 (iT 5 113),iA 115 (.call 188 [.t 114]),iA 2 (iM 115)] .ret)))))))
theorem jh8:fnC Tryz.prog Tryz.f147=some (jf4,[.t 2],116):=by kernel_rfl
def kW:C:=iS [iA 1 (.box 60 11 (.t 0)),iA 2 (.alloc 60 [.int .i64 0,.int .i64 0,.int .i64 0,.int .i64 0,.int .i64 0,.int .i64 0,.slice none 0 0,.int .i64 0,.int .i64 0,.int .i64 0,.int .i64 0])] (iS [iA 4 (iF 0 1),iA 5 (iL 4),iA 6 (.bld [.int .i64 0,.int .i64 0,.int .i64 0,.int .i64 0,.int .i64 0,.int .i64 0,.slice none 0 0,.int .i64 0,.int .i64 0,.int .i64 0,.int .i64 0] [(0,1,.t 5)]),iA 3 (.alloc 60 [.int .i64 0,.int .i64 0,.int .i64 0,.int .i64 0,.int .i64 0,.int .i64 0,.slice none 0 0,.int .i64 0,.int .i64 0,.int .i64 0,.int .i64 0]),iC (.st 11 [none,none,none,none,none,none,some (2,161),none,none,none,none] (.t 3) (.t 6))] (.seq (iS [iA 7 (iF 0 1),iA 8 (iL 7)] (.blk 0 (iS [iA 10 (iQ .eql 3 8 1),iA 9 (iM 10)] (iD 9 (.dreg (T.pure 0 (iA 11 (iF 1 1)) (T.pure 1 (iA 12 (iL 11)) (T.pure 2 (iA 13 (iF 2 1)) (T.pure 3 (iA 14 (iT 5 13)) (T.pure 4 (iA 15 (iF 1 3)) (T.alt (iC (.st 1 [none] (.t 15) (.t 12))) [3,2] (T.pure 6 (iA 16 (iF 2 3)) (T.alt (iC (.st 5 [none,none,none,none,some (2,161)] (.t 16) (.t 14))) [] T.done T.stop)) T.stop))))))) (iS [iA 18 (iQ .eql 3 8 2),iA 17 (iM 18)] (iD 17 (.dreg (T.pure 0 (iA 19 (iF 9 1)) (T.pure 1 (iA 20 (iL 19)) (T.pure 2 (iA 21 (iF 10 1)) (T.pure 3 (iA 22 (iL 21)) (T.pure 4 (iA 23 (iF 9 3)) (T.alt (iC (.st 1 [none] (.t 23) (.t 20))) [3,2] (T.pure 6 (iA 24 (iF 10 3)) (T.alt (iC (.st 1 [none] (.t 24) (.t 22))) [] T.done T.stop)) T.stop))))))) (.seq (iS [iA 26 (iQ .eql 3 8 3),iA 25 (iM 26)] (iD 25 .skip (.reg [iA 27 (iQ .eql 3 8 4),iA 25 (iM 27)]))) (iD 25 (.dreg (T.pure 0 (iA 28 (iF 1 1)) (T.pure 1 (iA 29 (iL 28)) (T.pure 2 (iA 30 (iF 7 1)) (T.pure 3 (iA 31 (iL 30)) (T.pure 4 (iA 32 (iF 8 1)) (T.pure 5 (iA 33 (iL 32)) (T.pure 6 (iA 34 (iF 1 3)) (T.alt (iC (.st 1 [none] (.t 34) (.t 29))) [5,4,3,2] (T.pure 8 (iA 35 (iF 7 3)) (T.alt (iC (.st 1 [none] (.t 35) (.t 31))) [5,4] (T.pure 10 (iA 36 (iF 8 3)) (T.alt (iC (.st 1 [none] (.t 36) (.t 33))) [] T.done T.stop)) T.stop)) T.stop))))))))) (.seq (iS [iA 38 (iQ .eql 3 8 6),iA 37 (iM 38)] (iD 37 .skip (.reg [iA 39 (iQ .eql 3 8 7),iA 37 (iM 39)]))) (iD 37 (.reg [iA 40 (iF 1 1),iA 41 (iL 40),iA 42 (iF 1 3),iC (.st 1 [none] (.t 42) (.t 41))]) .skip)))))))))) (iS [iA 43 (iT 11 3),iC (.st 11 [none,none,none,none,none,none,some (2,161),none,none,none,none] (.t 2) (.t 43))] .ret)))
theorem kE:fnC Tryz.prog Tryz.f93=some (kW,[.cell 2 true 11],44):=by kernel_rfl
def jaT:C:=iS [iA 1 (.box 60 11 (.t 0)),iA 2 (.mov (.c (.slice none 0 0)))] (.seq (iS [iA 6 (iF 0 1),iA 7 (iL 6)] (.blk 0 (iS [iA 9 (iQ .eql 3 7 1),iA 8 (iM 9)] (iD 8 (iS [iA 10 (iF 1 1),iA 11 (iL 10),iA 12 (iF 2 1),iA 13 (iF 0 12),iA 14 (iL 13),iA 15 (iF 2 1),iA 16 (iF 1 15),iA 17 (iL 16),iA 18 (iF 2 1),iA 19 (iF 2 18),iA 20 (iL 19),iA 21 (iF 2 1),iA 22 (iF 3 21),iA 23 (iL 22),iA 24 (iF 2 1),iA 25 (iF 4 24),iA 26 (iL 25),iA 27 (iG 26),iA 28 (.bsl 3 1 6 [none,none,none,none,none,none] [(0,1,.t 11),(1,1,.t 14),(2,1,.t 17),(3,1,.t 20),(4,1,.t 23),(5,1,.t 27)]),iA 3 (iM 28)] (.seq (iS [iA 29 (iF 2 1),iA 30 (iF 4 29),iA 31 (iL 30),iA 32 (iG 31),iA 33 (iN 0)] (.blk 1 (.loop (iS [iA 34 (iP .lss 3 33 32)] (.seq (iD 34 .skip (.exit 1)) (.seq (.blk 2 (iS [iA 35 (iI 2 31 33),iA 36 (iT 2 35),iA 5 (.alloc 161 [.int .i64 0,.int .i64 0]),iC (.st 2 [none,none] (.t 5) (.t 36))] (.reg [iA 37 (iM 3),iA 38 (iF 0 5),iA 39 (iL 38),iA 40 (iF 1 5),iA 41 (iL 40),iA 42 (.bsl 3 1 2 [none,none] [(0,1,.t 39),(1,1,.t 41)]),iA 43 (.app 3 1 8 (.t 37) (.t 42)),iA 3 (iM 43)]))) (.reg [iA 44 (iQ .add 3 33 1),iA 33 (iM 44)]))))))) (iS [iA 45 (iM 3),iA 2 (iM 45)] .ret))) (iS [iA 47 (iQ .eql 3 7 2),iA 46 (iM 47)] (iD 46 (iS [iA 48 (iF 9 1),iA 49 (iL 48),iA 50 (iF 10 1),iA 51 (iL 50),iA 52 (.bsl 3 1 2 [none,none] [(0,1,.t 49),(1,1,.t 51)]),iA 2 (iM 52)] .ret) (.seq (iS [iA 54 (iQ .eql 3 7 3),iA 53 (iM 54)] (iD 53 .skip (.reg [iA 55 (iQ .eql 3 7 4),iA 53 (iM 55)]))) (iD 53 (iS [iA 56 (iF 1 1),iA 57 (iL 56),iA 58 (iF 7 1),iA 59 (iL 58),iA 60 (iF 8 1),iA 61 (iL 60),iA 62 (.bsl 3 1 3 [none,none,none] [(0,1,.t 57),(1,1,.t 59),(2,1,.t 61)]),iA 2 (iM 62)] .ret) (.seq (iS [iA 64 (iQ .eql 3 7 6),iA 63 (iM 64)] (iD 63 .skip (.reg [iA 65 (iQ .eql 3 7 7),iA 63 (iM 65)]))) (iD 63 (iS [iA 66 (iF 1 1),iA 67 (iL 66),iA 68 (.bsl 3 1 1 [none] [(0,1,.t 67)]),iA 2 (iM 68)] .ret) .skip)))))))))) (iS [iA 2 (.mov (.c (.slice none 0 0)))] .ret))
theorem jcK:fnC Tryz.prog Tryz.f94=some (jaT,[.t 2],69):=by kernel_rfl
def qL:C:=iS [iA 1 (.box 60 11 (.t 0)),iA 2 (iO false)] (.seq (.seq (.dreg (T.pure 0 (iA 5 (iF 0 1)) (T.pure 1 (iA 6 (iL 5)) (T.alt (iA 7 (.call 62 [.t 6,.c (.int .i64 1),.c (.int .i64 8)])) [] (T.pure 3 (iA 8 (iU 7)) (T.pure 4 (iA 9 (iM 8)) (T.pure 5 (iB 10 9 false (iF 2 1)) (T.pure 6 (iB 11 9 false (iF 4 10)) (T.pure 7 (iB 12 9 false (iL 11)) (T.pure 8 (iB 13 9 false (iG 12)) (T.pure 9 (iB 14 9 false (iQ .gtr 3 13 31)) (T.pure 10 (iA 15 (.pick (.t 9) (.c (.bool true)) (.t 14))) (T.pure 11 (iA 16 (iM 15)) (T.pure 12 (iB 17 16 false (iT 11 1)) (T.pure 13 (iB 18 16 false (iT 11 1)) (T.alt (iB 19 16 false (.call 93 [.t 18])) [12] (T.alt (iB 20 16 false (.call 92 [.t 17,.t 19])) [] (T.pure 16 (iB 21 16 false (iU 20)) (T.pure 17 (iA 22 (.pick (.t 16) (.c (.bool true)) (.t 21))) T.done)) T.stop) T.stop)))))))))))) T.stop)))) (iD 22 (iS [iA 2 (iO false)] .ret) .skip)) (.seq (iS [iA 23 (iT 11 1),iA 24 (.call 94 [.t 23]),iA 25 (iG 24),iA 26 (iN 0)] (.blk 0 (.loop (iS [iA 27 (iP .lss 3 26 25)] (.seq (iD 27 .skip (.exit 0)) (.seq (.blk 1 (iS [iA 28 (iI 1 24 26),iA 29 (iL 28),iA 4 (iM 29)] (iS [iA 30 (iM 4),iA 31 (.call 62 [.t 30,.c (.int .i64 0),.c (.int .i64 1000000000)]),iA 32 (iU 31)] (iD 32 (iS [iA 2 (iO false)] .ret) .skip)))) (.reg [iA 33 (iQ .add 3 26 1),iA 26 (iM 33)]))))))) (iS [iA 2 (iO true)] .ret)))
theorem jio:fnC Tryz.prog Tryz.f30=some (qL,[.t 2],34):=by kernel_rfl
def zo (n:Int):Bool:=decide (0≤n∧n≤1000000000)
theorem qk (n:Int):kj Tryz.prog 186 [.c (.val (.int .i64 n))] (.c (.val (.bool (zo n)))):=by
 refine jq Tryz.func186 jhX (by simp) ?_
 unfold jfT;simp only [go_sem];refine jc (jL n 0 1000000000) (by simp only [go_sem]) fun η=>?_
 simp only [go_sem];rfl
def jbC (p:Pl):Bool:=p.prio==0&&p.most==0&&p.wait==0&&p.tasks==0&&((p.edges.length:Int)==0)
theorem vG (p:Pl):kj Tryz.prog 188 [.agg (ja p)] (.c (.val (.bool (jbC p)))):=by
 refine jq Tryz.func188 jeI (by simp) ?_
 unfold jbT;cases h1:p.prio==0<;>cases h2:p.most==0<;>cases h3:p.wait==0<;>cases h4:p.tasks==0
 all_goals
  simp only [go_sem,ja,h1,h2,h3,h4];intros;simp [jbC,h1,h2,h3,h4]
def edB (e:Ed):Bool:=zo e.src&&zo e.dst
def jgB (p:Pl):Bool:=zo p.prio&&zo p.most&&zo p.wait&&zo p.tasks&&decide (p.edges.length≤31)&&p.edges.all edB
theorem jrl {α:Type} {f:α→Bool} {l:List α} {k:Nat} {x:α} (h:l[k]?=some x) (ht:(l.take k).all f=true) (hx:f x=true):(l.take (k+1)).all f=true:=by
 rw [List.take_add_one,h];simp only [List.all_append,ht,Option.toList_some,List.all_cons,hx,List.all_nil,Bool.and_self]
theorem jvu {α:Type} {f:α→Bool} {l:List α} {k:Nat} {x:α} (h:l[k]?=some x) (hx:f x=false):l.all f=false:=by
 rw [List.all_eq_false];exact ⟨x,List.mem_of_getElem? h,by simp [hx]⟩
theorem jt0 (p:Pl) (hb:p.edges.length≤4000000):kj Tryz.prog 187 [.agg (ja p)] (.c (.val (.bool (jgB p)))):=by
 refine jq Tryz.func187 jgL (by simp) ?_
 unfold jdS;simp only [go_sem,ja];intros;refine jc (qk p.prio) (by simp only [go_sem]) fun η=>?_
 cases h1:zo p.prio
 ·simp only [go_sem,h1]
  simp [jgB,h1]
 simp only [go_sem,h1];refine jc (qk p.most) (by simp only [go_sem]) fun η=>?_
 cases h2:zo p.most
 ·simp only [go_sem,h1,h2]
  simp [jgB,h1,h2]
 simp only [go_sem,h1,h2];refine jc (qk p.wait) (by simp only [go_sem]) fun η=>?_
 cases h3:zo p.wait
 ·simp only [go_sem,h1,h2,h3]
  simp [jgB,h1,h2,h3]
 simp only [go_sem,h1,h2,h3];refine jc (qk p.tasks) (by simp only [go_sem]) fun η=>?_
 cases h4:zo p.tasks
 ·simp only [go_sem,h1,h2,h3,h4]
  simp [jgB,h1,h2,h3,h4]
 by_cases h5:p.edges.length≤31
 ·have h5':¬(31:Int)<p.edges.length:=by omega
  simp only [go_sem,h1,h2,h3,h4,h5'];refine vB (fun s=>∃(k b:Nat) (ty:Nat),k≤p.edges.length∧(p.edges.take k).all edB=true∧s.t 3=.c (.v (.int .i64 k))∧s.t 1=.c (.bp 100 0 b)∧s.o 100=.box b ty [.a (.v (.int .i64 p.prio)),.a (.v (.int .i64 p.most)),.a (.v (.int .i64 p.wait)),.a (.v (.int .i64 p.tasks)),.a (.ro (jy p.edges))]) (fun s=>p.edges.length-s.n 3) ?_ ?_
  ·exact ⟨0,_,_,Nat.zero_le _,rfl,by simp only [go_sem]<;>rfl,by simp only [go_sem]<;>rfl,by simp only [go_sem]<;>rfl⟩
  ·rintro s ⟨k,b,ty,hk,ha,ht3,ht1,hob⟩
   by_cases hlt:k<p.edges.length
   ·have hlt':(k:Int)<p.edges.length:=by omega
    obtain ⟨x,hx⟩:=je hlt;have hw:IntKind.i64.wrap ((k:Int)+1)=((k+1:Nat):Int):=jf (by omega) (by omega)
    simp only [go_sem,ht3,ht1,hob,hlt,hlt',jx hx,jO];refine jc (qk x.src) (by simp only [go_sem]) fun η=>?_
    cases h6:zo x.src
    ·simp only [go_sem,ht3,ht1,hob,h6]
     have:=jvu (f:=edB) hx (by simp [edB,h6])
     simp [jgB,this]
    simp only [go_sem,ht3,ht1,hob,hlt,hlt',jx hx,jO,h6];refine jc (qk x.dst) (by simp only [go_sem]) fun η=>?_
    cases h7:zo x.dst
    ·simp only [go_sem,ht3,ht1,hob,h6,h7]
     have:=jvu (f:=edB) hx (by simp [edB,h6,h7])
     simp [jgB,this]
    simp only [go_sem,ht3,ht1,hob,h6,h7,hw];refine ⟨⟨k+1,b,ty,?_⟩,?_⟩
    ·and_intros<;>first|rfl|omega|exact jrl hx ha (by simp [edB,h6,h7])
    ·rw [jev (k:=.i64) (n:=((k+1:Nat):Int)) (by simp only [go_sem]),jev ht3];omega
   ·have hlt':¬(k:Int)<p.edges.length:=by omega
    rw [List.take_of_length_le (by omega)] at ha
    simp only [go_sem,ht3,ht1,hob,hlt'];simp [jgB,h1,h2,h3,h4,h5,ha]
 ·have h5':(31:Int)<p.edges.length:=by omega
  simp only [go_sem,h1,h2,h3,h4,h5'];simp [jgB,h5]
def kf (d:Dd):Bool:=
 if d.kind=1 then zo d.run&&d.task==0&&d.tri==0&&d.worker==0&&d.draw==0&&jgB d.plan
 else if d.kind=2 then d.run==0&&d.task==0&&d.tri==0&&zo d.worker&&zo d.draw&&jbC d.plan
 else if d.kind=3∨d.kind=4 then zo d.run&&zo d.task&&zo d.tri&&d.worker==0&&d.draw==0&&jbC d.plan
 else if d.kind=5∨d.kind=8 then d.run==0&&d.task==0&&d.tri==0&&d.worker==0&&d.draw==0&&jbC d.plan
 else if d.kind=6∨d.kind=7 then zo d.run&&d.task==0&&d.tri==0&&d.worker==0&&d.draw==0&&jbC d.plan
 else false
theorem jlX (d:Dd) (hb:jhM d≤2000000):kj Tryz.prog 147 [.agg (jp d)] (.c (.val (.bool (kf d)))):=by
 refine jq Tryz.func147 jh8 (by simp) ?_
 unfold jf4;obtain ⟨kind,run,plan,task,tri,worker,draw⟩:=d;have hp:plan.edges.length≤4000000:=by simp only [jhM,jhL] at hb;omega
 by_cases hk:1≤kind∧kind≤8
 ·have:kind=1∨kind=2∨kind=3∨kind=4∨kind=5∨kind=6∨kind=7∨kind=8:=by omega
  simp only [go_sem,jp,ja];intros;refine jc (jL kind 1 8) (by simp only [go_sem]) fun η=>?_
  rcases this with rfl|rfl|rfl|rfl|rfl|rfl|rfl|rfl
  ·simp only [go_sem,jp,ja]
   refine jc (qk run) (by simp only [go_sem]) fun η=>?_
   cases g0:zo run
   ·simp only [go_sem,jp,ja,g0]
    simp [kf,g0]
   simp only [go_sem,jp,ja,g0];by_cases e1:task=0;rotate_left
   ·have g1:(task !=0)=true:=by simpa using e1
    simp only [go_sem,jp,ja,g0,g1];simp [kf,e1,g0]
   subst e1;simp only [go_sem,jp,ja,g0];by_cases e2:tri=0;rotate_left
   ·have g2:(tri !=0)=true:=by simpa using e2
    simp only [go_sem,jp,ja,g0,g2];simp [kf,e2,g0]
   subst e2;simp only [go_sem,jp,ja,g0];by_cases e3:worker=0;rotate_left
   ·have g3:(worker !=0)=true:=by simpa using e3
    simp only [go_sem,jp,ja,g0,g3];simp [kf,e3,g0]
   subst e3;simp only [go_sem,jp,ja,g0];by_cases e4:draw=0;rotate_left
   ·have g4:(draw !=0)=true:=by simpa using e4
    simp only [go_sem,jp,ja,g0,g4];simp [kf,e4,g0]
   subst e4;simp only [go_sem,jp,ja,g0];refine jc (jt0 plan hp) (by simp only [go_sem,ja]) fun η=>?_
   simp only [go_sem,jp,ja,g0];simp [kf,g0]
  ·simp only [go_sem,jp,ja]
   by_cases e0:run=0;rotate_left
   ·have g0:(run !=0)=true:=by simpa using e0
    simp only [go_sem,jp,ja,g0];simp [kf,e0]
   subst e0;simp only [go_sem,jp,ja];by_cases e1:task=0;rotate_left
   ·have g1:(task !=0)=true:=by simpa using e1
    simp only [go_sem,jp,ja,g1];simp [kf,e1]
   subst e1;simp only [go_sem,jp,ja];by_cases e2:tri=0;rotate_left
   ·have g2:(tri !=0)=true:=by simpa using e2
    simp only [go_sem,jp,ja,g2];simp [kf,e2]
   subst e2;simp only [go_sem,jp,ja];refine jc (qk worker) (by simp only [go_sem]) fun η=>?_
   cases g3:zo worker
   ·simp only [go_sem,jp,ja,g3]
    simp [kf,g3]
   simp only [go_sem,jp,ja,g3];refine jc (qk draw) (by simp only [go_sem]) fun η=>?_
   cases g4:zo draw
   ·simp only [go_sem,jp,ja,g3,g4]
    simp [kf,g3,g4]
   simp only [go_sem,jp,ja,g3,g4];refine jc (vG plan) (by simp only [go_sem,ja]) fun η=>?_
   simp only [go_sem,jp,ja,g3,g4];simp [kf,g3,g4]
  ·simp only [go_sem,jp,ja]
   refine jc (qk run) (by simp only [go_sem]) fun η=>?_
   cases g0:zo run
   ·simp only [go_sem,jp,ja,g0]
    simp [kf,g0]
   simp only [go_sem,jp,ja,g0];refine jc (qk task) (by simp only [go_sem]) fun η=>?_
   cases g1:zo task
   ·simp only [go_sem,jp,ja,g0,g1]
    simp [kf,g0,g1]
   simp only [go_sem,jp,ja,g0,g1];refine jc (qk tri) (by simp only [go_sem]) fun η=>?_
   cases g2:zo tri
   ·simp only [go_sem,jp,ja,g0,g1,g2]
    simp [kf,g0,g1,g2]
   simp only [go_sem,jp,ja,g0,g1,g2];by_cases e3:worker=0;rotate_left
   ·have g3:(worker !=0)=true:=by simpa using e3
    simp only [go_sem,jp,ja,g0,g1,g2,g3];simp [kf,e3,g0,g1,g2]
   subst e3;simp only [go_sem,jp,ja,g0,g1,g2];by_cases e4:draw=0;rotate_left
   ·have g4:(draw !=0)=true:=by simpa using e4
    simp only [go_sem,jp,ja,g0,g1,g2,g4];simp [kf,e4,g0,g1,g2]
   subst e4;simp only [go_sem,jp,ja,g0,g1,g2];refine jc (vG plan) (by simp only [go_sem,ja]) fun η=>?_
   simp only [go_sem,jp,ja,g0,g1,g2];simp [kf,g0,g1,g2]
  ·simp only [go_sem,jp,ja]
   refine jc (qk run) (by simp only [go_sem]) fun η=>?_
   cases g0:zo run
   ·simp only [go_sem,jp,ja,g0]
    simp [kf,g0]
   simp only [go_sem,jp,ja,g0];refine jc (qk task) (by simp only [go_sem]) fun η=>?_
   cases g1:zo task
   ·simp only [go_sem,jp,ja,g0,g1]
    simp [kf,g0,g1]
   simp only [go_sem,jp,ja,g0,g1];refine jc (qk tri) (by simp only [go_sem]) fun η=>?_
   cases g2:zo tri
   ·simp only [go_sem,jp,ja,g0,g1,g2]
    simp [kf,g0,g1,g2]
   simp only [go_sem,jp,ja,g0,g1,g2];by_cases e3:worker=0;rotate_left
   ·have g3:(worker !=0)=true:=by simpa using e3
    simp only [go_sem,jp,ja,g0,g1,g2,g3];simp [kf,e3,g0,g1,g2]
   subst e3;simp only [go_sem,jp,ja,g0,g1,g2];by_cases e4:draw=0;rotate_left
   ·have g4:(draw !=0)=true:=by simpa using e4
    simp only [go_sem,jp,ja,g0,g1,g2,g4];simp [kf,e4,g0,g1,g2]
   subst e4;simp only [go_sem,jp,ja,g0,g1,g2];refine jc (vG plan) (by simp only [go_sem,ja]) fun η=>?_
   simp only [go_sem,jp,ja,g0,g1,g2];simp [kf,g0,g1,g2]
  ·simp only [go_sem,jp,ja]
   by_cases e0:run=0;rotate_left
   ·have g0:(run !=0)=true:=by simpa using e0
    simp only [go_sem,jp,ja,g0];simp [kf,e0]
   subst e0;simp only [go_sem,jp,ja];by_cases e1:task=0;rotate_left
   ·have g1:(task !=0)=true:=by simpa using e1
    simp only [go_sem,jp,ja,g1];simp [kf,e1]
   subst e1;simp only [go_sem,jp,ja];by_cases e2:tri=0;rotate_left
   ·have g2:(tri !=0)=true:=by simpa using e2
    simp only [go_sem,jp,ja,g2];simp [kf,e2]
   subst e2;simp only [go_sem,jp,ja];by_cases e3:worker=0;rotate_left
   ·have g3:(worker !=0)=true:=by simpa using e3
    simp only [go_sem,jp,ja,g3];simp [kf,e3]
   subst e3;simp only [go_sem,jp,ja];by_cases e4:draw=0;rotate_left
   ·have g4:(draw !=0)=true:=by simpa using e4
    simp only [go_sem,jp,ja,g4];simp [kf,e4]
   subst e4;simp only [go_sem,jp,ja];refine jc (vG plan) (by simp only [go_sem,ja]) fun η=>?_
   simp only [go_sem,jp,ja];simp [kf]
  ·simp only [go_sem,jp,ja]
   refine jc (qk run) (by simp only [go_sem]) fun η=>?_
   cases g0:zo run
   ·simp only [go_sem,jp,ja,g0]
    simp [kf,g0]
   simp only [go_sem,jp,ja,g0];by_cases e1:task=0;rotate_left
   ·have g1:(task !=0)=true:=by simpa using e1
    simp only [go_sem,jp,ja,g0,g1];simp [kf,e1,g0]
   subst e1;simp only [go_sem,jp,ja,g0];by_cases e2:tri=0;rotate_left
   ·have g2:(tri !=0)=true:=by simpa using e2
    simp only [go_sem,jp,ja,g0,g2];simp [kf,e2,g0]
   subst e2;simp only [go_sem,jp,ja,g0];by_cases e3:worker=0;rotate_left
   ·have g3:(worker !=0)=true:=by simpa using e3
    simp only [go_sem,jp,ja,g0,g3];simp [kf,e3,g0]
   subst e3;simp only [go_sem,jp,ja,g0];by_cases e4:draw=0;rotate_left
   ·have g4:(draw !=0)=true:=by simpa using e4
    simp only [go_sem,jp,ja,g0,g4];simp [kf,e4,g0]
   subst e4;simp only [go_sem,jp,ja,g0];refine jc (vG plan) (by simp only [go_sem,ja]) fun η=>?_
   simp only [go_sem,jp,ja,g0];simp [kf,g0]
  ·simp only [go_sem,jp,ja]
   refine jc (qk run) (by simp only [go_sem]) fun η=>?_
   cases g0:zo run
   ·simp only [go_sem,jp,ja,g0]
    simp [kf,g0]
   simp only [go_sem,jp,ja,g0];by_cases e1:task=0;rotate_left
   ·have g1:(task !=0)=true:=by simpa using e1
    simp only [go_sem,jp,ja,g0,g1];simp [kf,e1,g0]
   subst e1;simp only [go_sem,jp,ja,g0];by_cases e2:tri=0;rotate_left
   ·have g2:(tri !=0)=true:=by simpa using e2
    simp only [go_sem,jp,ja,g0,g2];simp [kf,e2,g0]
   subst e2;simp only [go_sem,jp,ja,g0];by_cases e3:worker=0;rotate_left
   ·have g3:(worker !=0)=true:=by simpa using e3
    simp only [go_sem,jp,ja,g0,g3];simp [kf,e3,g0]
   subst e3;simp only [go_sem,jp,ja,g0];by_cases e4:draw=0;rotate_left
   ·have g4:(draw !=0)=true:=by simpa using e4
    simp only [go_sem,jp,ja,g0,g4];simp [kf,e4,g0]
   subst e4;simp only [go_sem,jp,ja,g0];refine jc (vG plan) (by simp only [go_sem,ja]) fun η=>?_
   simp only [go_sem,jp,ja,g0];simp [kf,g0]
  ·simp only [go_sem,jp,ja]
   by_cases e0:run=0;rotate_left
   ·have g0:(run !=0)=true:=by simpa using e0
    simp only [go_sem,jp,ja,g0];simp [kf,e0]
   subst e0;simp only [go_sem,jp,ja];by_cases e1:task=0;rotate_left
   ·have g1:(task !=0)=true:=by simpa using e1
    simp only [go_sem,jp,ja,g1];simp [kf,e1]
   subst e1;simp only [go_sem,jp,ja];by_cases e2:tri=0;rotate_left
   ·have g2:(tri !=0)=true:=by simpa using e2
    simp only [go_sem,jp,ja,g2];simp [kf,e2]
   subst e2;simp only [go_sem,jp,ja];by_cases e3:worker=0;rotate_left
   ·have g3:(worker !=0)=true:=by simpa using e3
    simp only [go_sem,jp,ja,g3];simp [kf,e3]
   subst e3;simp only [go_sem,jp,ja];by_cases e4:draw=0;rotate_left
   ·have g4:(draw !=0)=true:=by simpa using e4
    simp only [go_sem,jp,ja,g4];simp [kf,e4]
   subst e4;simp only [go_sem,jp,ja];refine jc (vG plan) (by simp only [go_sem,ja]) fun η=>?_
   simp only [go_sem,jp,ja];simp [kf]
 ·simp only [go_sem,jp,ja]
  intros;refine jc (jL kind 1 8) (by simp only [go_sem]) fun η=>?_
  simp only [go_sem,hk];have h1:kind≠1:=by omega
  have h2:kind≠2:=by omega
  have h3:kind≠3:=by omega
  have h4:kind≠4:=by omega
  have h5:kind≠5:=by omega
  have h6:kind≠6:=by omega
  have h7:kind≠7:=by omega
  have h8:kind≠8:=by omega
  simp [kf,h1,h2,h3,h4,h5,h6,h7,h8]
theorem vK (x y:Dd):kj Tryz.prog 92 [.agg (jp x),.agg (jp y)] (.c (.val (.bool (decide (x=y))))):=jo8 ⟨_,Tryz.func92,by kernel_rfl,by kernel_rfl⟩ fun w a b ⟨S,ha⟩ ⟨S2,hb⟩=>jpx x y a b S S2 w false false ha hb
def jaC (d:Dd):List Int:=
 if d.kind=1 then [d.run,d.plan.prio,d.plan.most,d.plan.wait,d.plan.tasks,d.plan.edges.length]++d.plan.edges.flatMap fun e=>[e.src,e.dst]
 else if d.kind=2 then [d.worker,d.draw]
 else if d.kind=3∨d.kind=4 then [d.run,d.task,d.tri]
 else if d.kind=6∨d.kind=7 then [d.run]
 else []
theorem jxM (l:List Ed):(l.flatMap fun e=>[e.src,e.dst]).length=2*l.length:=by
 induction l with
 |nil=>rfl
 |cons x l ih=>simp only [List.flatMap_cons,List.length_append,ih,List.length_cons,List.length_nil];omega
theorem jma (d:Dd) (hb:jhM d≤2000000):kj Tryz.prog 94 [.agg (jp d)] (.c (jh (jaC d))):=by
 refine jq Tryz.func94 jcK (by simp) ?_
 unfold jaT;obtain ⟨kind,run,plan,task,tri,worker,draw⟩:=d;have hp:plan.edges.length≤4000000:=by simp only [jhM,jhL] at hb;omega
 by_cases k1:kind=1
 ·subst k1
  simp only [go_sem,jp,ja];intro b0 η0
  refine vB (fun s=>∃(k g:Nat) (η:js),k≤plan.edges.length∧(g=2800∨g=4300)∧s.t 31=.c (.ro (jy plan.edges))∧s.t 32=.c (.v (.int .i64 plan.edges.length))∧s.t 33=.c (.v (.int .i64 k))∧s.t 3=.c (.h g 0 [] (η []))∧
   s.o g=.loose (jh ([run,plan.prio,plan.most,plan.wait,plan.tasks,(plan.edges.length:Int)]++(plan.edges.take k).flatMap fun e=>[e.src,e.dst])) η) (fun s=>plan.edges.length-s.n 33) ?_ ?_
  ·exact ⟨0,2800,η0,Nat.zero_le _,.inl rfl,by simp only [go_sem]<;>rfl,by simp only [go_sem]<;>rfl,by simp only [go_sem]<;>rfl,by simp only [go_sem]<;>rfl,by simp only [go_sem]<;>rfl⟩
  ·rintro s ⟨k,g,η,hk,hg,h31,h32,h33,h3,hob⟩
   by_cases hlt:k<plan.edges.length
   ·have hlt':(k:Int)<plan.edges.length:=by omega
    obtain ⟨x,hx⟩:=je hlt;have hw:IntKind.i64.wrap ((k:Int)+1)=((k+1:Nat):Int):=jf (by omega) (by omega)
    generalize hl:[run,plan.prio,plan.most,plan.wait,plan.tasks,(plan.edges.length:Int)]++(plan.edges.take k).flatMap (fun e=>[e.src,e.dst])=l at hob
    have hll:l.length=6+2*k:=by rw [←hl,List.length_append,jxM,List.length_take,Nat.min_eq_left hk];rfl
    have h1':l.length+2≤maxLen:=by unfold maxLen;omega
    have h2':(l.length+2)*8≤140737488355328:=by omega
    have hnext:l++[x.src,x.dst]=[run,plan.prio,plan.most,plan.wait,plan.tasks,(plan.edges.length:Int)]++(plan.edges.take (k+1)).flatMap (fun e=>[e.src,e.dst]):=by
     rw [←hl,List.take_add_one,hx];simp
    rcases hg with rfl|rfl
    all_goals
     simp only [go_sem,h31,h32,h33,h3,hob,hlt,hlt',jx hx,jO,h1',h2',hw,jsm];intro b1 η1 η2;refine ⟨⟨k+1,4300,η2,?_⟩,?_⟩
     ·and_intros<;>first|rfl|omega|exact .inr rfl|(rw [hnext];rfl)
     ·rw [jev (k:=.i64) (n:=((k+1:Nat):Int)) (by simp only [go_sem]),jev h33];omega
   ·have hlt':¬(k:Int)<plan.edges.length:=by omega
    rw [List.take_of_length_le (by omega)] at hob
    rcases hg with rfl|rfl
    ·simp only [go_sem,h31,h32,h33,h3,hob,hlt']
     rfl
    ·simp only [go_sem,h31,h32,h33,h3,hob,hlt']
     rfl
 ·have g1:(kind==1)=false:=by simpa using k1
  by_cases k2:kind=2
  ·subst k2
   simp only [go_sem,jp,ja];intros;rfl
  ·have g2:(kind==2)=false:=by simpa using k2
   by_cases k3:kind=3
   ·subst k3
    simp only [go_sem,jp,ja];intros;rfl
   ·have g3:(kind==3)=false:=by simpa using k3
    by_cases k4:kind=4
    ·subst k4
     simp only [go_sem,jp,ja];intros;rfl
    ·have g4:(kind==4)=false:=by simpa using k4
     by_cases k6:kind=6
     ·subst k6
      simp only [go_sem,jp,ja];intros;rfl
     ·have g6:(kind==6)=false:=by simpa using k6
      by_cases k7:kind=7
      ·subst k7
       simp only [go_sem,jp,ja];intros;rfl
      ·have g7:(kind==7)=false:=by simpa using k7
       have e:jaC ⟨kind,run,plan,task,tri,worker,draw⟩=[]:=by simp [jaC,k1,k2,k3,k4,k6,k7]
       simp only [go_sem,jp,ja,g1,g2,g3,g4,g6,g7,e]
def zeroPl:Pl:=⟨0,0,0,0,[]⟩
def vM (d:Dd):Dd:=
 if d.kind=1 then ⟨1,d.run,d.plan,0,0,0,0⟩
 else if d.kind=2 then ⟨2,0,zeroPl,0,0,d.worker,d.draw⟩
 else if d.kind=3∨d.kind=4 then ⟨d.kind,d.run,zeroPl,d.task,d.tri,0,0⟩
 else if d.kind=6∨d.kind=7 then ⟨d.kind,d.run,zeroPl,0,0,0,0⟩
 else ⟨d.kind,0,zeroPl,0,0,0,0⟩
def okI (d:Dd):Bool:=decide (1≤d.kind∧d.kind≤8)&&decide (d.plan.edges.length≤31)&&decide (d=vM d)&&(jaC d).all zo
def jvd:C:=match qL with
 |.seq _ (.seq _ c)=>c
 |c=>c
theorem jmP (d:Dd) (hb:jhM d≤2000000) {s:St} {b ty:Nat} (h1:s.t 1=.c (.bp 100 0 b)) (ho:s.o 100=.box b ty ((jp d).map fun x=>.a x.toRo)):wpC Tryz.prog 0 jvd (jxx [.t 2] (.c (.val (.bool ((jaC d).all zo))))) s:=by
 unfold jvd qL
 have hn:(jaC d).length≤20000000:=by
  have hp:d.plan.edges.length≤2000000:=hb;unfold jaC;split
  ·rw [List.length_append,jxM];simp;omega
  ·split
   ·simp
   ·split
    ·simp
    ·split<;>simp
 simp only [go_sem,h1,ho,jp,ja];refine jc (jma d hb) (by simp only [go_sem,h1,ho,jp,ja]) fun η=>?_
 generalize jaC d=l at*;simp only [go_sem,h1,ho];refine vB (fun s=>∃(k:Nat) (η:js),k≤l.length∧(l.take k).all zo=true∧s.t 24=.c (.h 2400 0 [] (η []))∧s.t 25=.c (.v (.int .i64 l.length))∧s.t 26=.c (.v (.int .i64 k))∧s.o 2400=.loose (jh l) η) (fun s=>l.length-s.n 26) ?_ ?_
 ·exact ⟨0,η 0,Nat.zero_le _,rfl,by simp only [go_sem]<;>rfl,by simp only [go_sem]<;>rfl,by simp only [go_sem]<;>rfl,by simp only [go_sem]<;>rfl⟩
 ·rintro s ⟨k,ηo,hk,ha,h24,h25,h26,hob⟩
  by_cases hlt:k<l.length
  ·have hlt':(k:Int)<l.length:=by omega
   obtain ⟨x,hx⟩:=je hlt;have hw:IntKind.i64.wrap ((k:Int)+1)=((k+1:Nat):Int):=jf (by omega) (by omega)
   simp only [go_sem,h24,h25,h26,hob,hlt,hlt',jj hx,ji hlt];refine jc (jE x 0 1000000000) (by simp only [go_sem]) fun η=>?_
   have hd:decide (0≤x∧x≤1000000000)=zo x:=rfl;cases h6:zo x
   ·simp only [go_sem,hd,h6]
    simp [jvu (f:=zo) hx h6]
   simp only [go_sem,h24,h25,h26,hob,hd,h6,hw];refine ⟨⟨k+1,ηo,?_⟩,?_⟩
   ·and_intros<;>first|rfl|omega|exact jrl hx ha h6
   ·rw [jev (k:=.i64) (n:=((k+1:Nat):Int)) (by simp only [go_sem]),jev h26];omega
  ·have hlt':¬(k:Int)<l.length:=by omega
   rw [List.take_of_length_le (by omega)] at ha
   simp only [go_sem,h24,h25,h26,hob,hlt'];simp [ha]
def c_dA:C:=match qL with
 |.seq c _=>c
 |c=>c
def c_dB:C:=match qL with
 |.seq _ (.seq c _)=>c
 |c=>c
set_option maxRecDepth 1000000 in
theorem jkn (d:Dd) (hb:jhM d≤2000000):kj Tryz.prog 30 [.agg (jp d)] (.c (.val (.bool (okI d)))):=by
 refine jq Tryz.func30 jio (by simp) ?_
 have hend:=fun (s:St) (b ty:Nat)=>jmP d hb (s:=s) (b:=b) (ty:=ty)
 rw [show qL=.seq c_dA (.seq c_dB jvd) from rfl]
 unfold c_dA c_dB qL;obtain ⟨kind,run,plan,task,tri,worker,draw⟩:=d;by_cases hk:1≤kind∧kind≤8
 ·by_cases hl:plan.edges.length≤31
  ·have hl':¬(31:Int)<plan.edges.length:=by omega
   simp only [go_sem,jp,ja];intro b;refine jc (jE kind 1 8) (by simp only [go_sem]) fun η=>?_
   simp only [go_sem,hk,hl'];have:kind=1∨kind=2∨kind=3∨kind=4∨kind=5∨kind=6∨kind=7∨kind=8:=by omega
   rcases this with rfl|rfl|rfl|rfl|rfl|rfl|rfl|rfl
   ·refine kV (qn (β:=7000000) Tryz.func93 kE (by simp) ?_)
    unfold kW;simp only [go_sem];intros;have hu:vM ⟨1,run,plan,task,tri,worker,draw⟩=⟨1,run,plan,0,0,0,0⟩:=by simp [vM,zeroPl]
    refine jc (vK ⟨1,run,plan,task,tri,worker,draw⟩ ⟨1,run,plan,0,0,0,0⟩) (by simp only [go_sem,jp,ja]) fun η2=>?_
    simp only [←hu];cases hs:decide ((⟨1,run,plan,task,tri,worker,draw⟩:Dd)=vM ⟨1,run,plan,task,tri,worker,draw⟩)
    ·simp only [go_sem,hs]
     simp [okI,hs]
    ·have e:okI ⟨1,run,plan,task,tri,worker,draw⟩=(jaC ⟨1,run,plan,task,tri,worker,draw⟩).all zo:=by simp only [okI,hs];simp [hl]
     rw [e];simp only [go_sem,hs];exact hend _ b _ (by simp only [go_sem]) (by simp only [go_sem,jp,ja]<;>rfl)
   ·refine kV (qn (β:=7000000) Tryz.func93 kE (by simp) ?_)
    unfold kW;simp only [go_sem];intros;have hu:vM ⟨2,run,plan,task,tri,worker,draw⟩=⟨2,0,⟨0,0,0,0,[]⟩,0,0,worker,draw⟩:=by simp [vM,zeroPl]
    refine jc (vK ⟨2,run,plan,task,tri,worker,draw⟩ ⟨2,0,⟨0,0,0,0,[]⟩,0,0,worker,draw⟩) (by simp only [go_sem,jp,ja]) fun η2=>?_
    simp only [←hu];cases hs:decide ((⟨2,run,plan,task,tri,worker,draw⟩:Dd)=vM ⟨2,run,plan,task,tri,worker,draw⟩)
    ·simp only [go_sem,hs]
     simp [okI,hs]
    ·have e:okI ⟨2,run,plan,task,tri,worker,draw⟩=(jaC ⟨2,run,plan,task,tri,worker,draw⟩).all zo:=by simp only [okI,hs];simp [hl]
     rw [e];simp only [go_sem,hs];exact hend _ b _ (by simp only [go_sem]) (by simp only [go_sem,jp,ja]<;>rfl)
   ·refine kV (qn (β:=7000000) Tryz.func93 kE (by simp) ?_)
    unfold kW;simp only [go_sem];intros;have hu:vM ⟨3,run,plan,task,tri,worker,draw⟩=⟨3,run,⟨0,0,0,0,[]⟩,task,tri,0,0⟩:=by simp [vM,zeroPl]
    refine jc (vK ⟨3,run,plan,task,tri,worker,draw⟩ ⟨3,run,⟨0,0,0,0,[]⟩,task,tri,0,0⟩) (by simp only [go_sem,jp,ja]) fun η2=>?_
    simp only [←hu];cases hs:decide ((⟨3,run,plan,task,tri,worker,draw⟩:Dd)=vM ⟨3,run,plan,task,tri,worker,draw⟩)
    ·simp only [go_sem,hs]
     simp [okI,hs]
    ·have e:okI ⟨3,run,plan,task,tri,worker,draw⟩=(jaC ⟨3,run,plan,task,tri,worker,draw⟩).all zo:=by simp only [okI,hs];simp [hl]
     rw [e];simp only [go_sem,hs];exact hend _ b _ (by simp only [go_sem]) (by simp only [go_sem,jp,ja]<;>rfl)
   ·refine kV (qn (β:=7000000) Tryz.func93 kE (by simp) ?_)
    unfold kW;simp only [go_sem];intros;have hu:vM ⟨4,run,plan,task,tri,worker,draw⟩=⟨4,run,⟨0,0,0,0,[]⟩,task,tri,0,0⟩:=by simp [vM,zeroPl]
    refine jc (vK ⟨4,run,plan,task,tri,worker,draw⟩ ⟨4,run,⟨0,0,0,0,[]⟩,task,tri,0,0⟩) (by simp only [go_sem,jp,ja]) fun η2=>?_
    simp only [←hu];cases hs:decide ((⟨4,run,plan,task,tri,worker,draw⟩:Dd)=vM ⟨4,run,plan,task,tri,worker,draw⟩)
    ·simp only [go_sem,hs]
     simp [okI,hs]
    ·have e:okI ⟨4,run,plan,task,tri,worker,draw⟩=(jaC ⟨4,run,plan,task,tri,worker,draw⟩).all zo:=by simp only [okI,hs];simp [hl]
     rw [e];simp only [go_sem,hs];exact hend _ b _ (by simp only [go_sem]) (by simp only [go_sem,jp,ja]<;>rfl)
   ·refine kV (qn (β:=7000000) Tryz.func93 kE (by simp) ?_)
    unfold kW;simp only [go_sem];intros;have hu:vM ⟨5,run,plan,task,tri,worker,draw⟩=⟨5,0,⟨0,0,0,0,[]⟩,0,0,0,0⟩:=by simp [vM,zeroPl]
    refine jc (vK ⟨5,run,plan,task,tri,worker,draw⟩ ⟨5,0,⟨0,0,0,0,[]⟩,0,0,0,0⟩) (by simp only [go_sem,jp,ja]) fun η2=>?_
    simp only [←hu];cases hs:decide ((⟨5,run,plan,task,tri,worker,draw⟩:Dd)=vM ⟨5,run,plan,task,tri,worker,draw⟩)
    ·simp only [go_sem,hs]
     simp [okI,hs]
    ·have e:okI ⟨5,run,plan,task,tri,worker,draw⟩=(jaC ⟨5,run,plan,task,tri,worker,draw⟩).all zo:=by simp only [okI,hs];simp [hl]
     rw [e];simp only [go_sem,hs];exact hend _ b _ (by simp only [go_sem]) (by simp only [go_sem,jp,ja]<;>rfl)
   ·refine kV (qn (β:=7000000) Tryz.func93 kE (by simp) ?_)
    unfold kW;simp only [go_sem];intros;have hu:vM ⟨6,run,plan,task,tri,worker,draw⟩=⟨6,run,⟨0,0,0,0,[]⟩,0,0,0,0⟩:=by simp [vM,zeroPl]
    refine jc (vK ⟨6,run,plan,task,tri,worker,draw⟩ ⟨6,run,⟨0,0,0,0,[]⟩,0,0,0,0⟩) (by simp only [go_sem,jp,ja]) fun η2=>?_
    simp only [←hu];cases hs:decide ((⟨6,run,plan,task,tri,worker,draw⟩:Dd)=vM ⟨6,run,plan,task,tri,worker,draw⟩)
    ·simp only [go_sem,hs]
     simp [okI,hs]
    ·have e:okI ⟨6,run,plan,task,tri,worker,draw⟩=(jaC ⟨6,run,plan,task,tri,worker,draw⟩).all zo:=by simp only [okI,hs];simp [hl]
     rw [e];simp only [go_sem,hs];exact hend _ b _ (by simp only [go_sem]) (by simp only [go_sem,jp,ja]<;>rfl)
   ·refine kV (qn (β:=7000000) Tryz.func93 kE (by simp) ?_)
    unfold kW;simp only [go_sem];intros;have hu:vM ⟨7,run,plan,task,tri,worker,draw⟩=⟨7,run,⟨0,0,0,0,[]⟩,0,0,0,0⟩:=by simp [vM,zeroPl]
    refine jc (vK ⟨7,run,plan,task,tri,worker,draw⟩ ⟨7,run,⟨0,0,0,0,[]⟩,0,0,0,0⟩) (by simp only [go_sem,jp,ja]) fun η2=>?_
    simp only [←hu];cases hs:decide ((⟨7,run,plan,task,tri,worker,draw⟩:Dd)=vM ⟨7,run,plan,task,tri,worker,draw⟩)
    ·simp only [go_sem,hs]
     simp [okI,hs]
    ·have e:okI ⟨7,run,plan,task,tri,worker,draw⟩=(jaC ⟨7,run,plan,task,tri,worker,draw⟩).all zo:=by simp only [okI,hs];simp [hl]
     rw [e];simp only [go_sem,hs];exact hend _ b _ (by simp only [go_sem]) (by simp only [go_sem,jp,ja]<;>rfl)
   ·refine kV (qn (β:=7000000) Tryz.func93 kE (by simp) ?_)
    unfold kW;simp only [go_sem];intros;have hu:vM ⟨8,run,plan,task,tri,worker,draw⟩=⟨8,0,⟨0,0,0,0,[]⟩,0,0,0,0⟩:=by simp [vM,zeroPl]
    refine jc (vK ⟨8,run,plan,task,tri,worker,draw⟩ ⟨8,0,⟨0,0,0,0,[]⟩,0,0,0,0⟩) (by simp only [go_sem,jp,ja]) fun η2=>?_
    simp only [←hu];cases hs:decide ((⟨8,run,plan,task,tri,worker,draw⟩:Dd)=vM ⟨8,run,plan,task,tri,worker,draw⟩)
    ·simp only [go_sem,hs]
     simp [okI,hs]
    ·have e:okI ⟨8,run,plan,task,tri,worker,draw⟩=(jaC ⟨8,run,plan,task,tri,worker,draw⟩).all zo:=by simp only [okI,hs];simp [hl]
     rw [e];simp only [go_sem,hs];exact hend _ b _ (by simp only [go_sem]) (by simp only [go_sem,jp,ja]<;>rfl)
  ·have hl':(31:Int)<plan.edges.length:=by omega
   simp only [go_sem,jp,ja];intro b;refine jc (jE kind 1 8) (by simp only [go_sem]) fun η=>?_
   simp only [go_sem,hk,hl'];simp [okI,hl]
 ·simp only [go_sem,jp,ja]
  intro b;refine jc (jE kind 1 8) (by simp only [go_sem]) fun η=>?_
  simp only [go_sem,hk];have:decide (1≤kind∧kind≤8)=false:=decide_eq_false hk;simp only [okI,this,Bool.false_and]
theorem jde (p:Pl):jbC p=decide (p=zeroPl):=by
 obtain ⟨a,b,c,d,e⟩:=p;rw [Bool.eq_iff_iff];simp only [jbC,zeroPl,Bool.and_eq_true,beq_iff_eq,decide_eq_true_eq,Pl.mk.injEq];constructor
 ·rintro ⟨⟨⟨⟨h1,h2⟩,h3⟩,h4⟩,h5⟩
  exact ⟨h1,h2,h3,h4,List.eq_nil_of_length_eq_zero (by omega)⟩
 ·rintro ⟨h1,h2,h3,h4,rfl⟩
  exact ⟨⟨⟨⟨h1,h2⟩,h3⟩,h4⟩,rfl⟩
theorem jB1 (l:List Ed):(l.flatMap fun e=>[e.src,e.dst]).all zo=l.all edB:=by
 induction l with
 |nil=>rfl
 |cons x l ih=>simp [List.flatMap_cons,List.all_append,ih,edB,Bool.and_assoc]
theorem jt9 (d:Dd):okI d=kf d:=by
 have hz:zeroPl.edges.length=0:=rfl;obtain ⟨kind,run,plan,task,tri,worker,draw⟩:=d;by_cases h1:kind=1
 ·subst h1
  have e:(jaC ⟨1,run,plan,task,tri,worker,draw⟩).all zo=(zo run&&zo plan.prio&&zo plan.most&&zo plan.wait&&zo plan.tasks&&zo plan.edges.length&&plan.edges.all edB):=by
   simp only [jaC,if_true,List.all_append,jB1];simp [Bool.and_assoc]
  have e2:decide (plan.edges.length≤31)=true→zo (plan.edges.length:Int)=true:=by
   intro h;have h:=of_decide_eq_true h;exact decide_eq_true (by omega)
  rw [okI,e,kf];simp only [vM,jgB,if_true,Dd.mk.injEq,true_and];rw [Bool.eq_iff_iff];simp only [Bool.and_eq_true,decide_eq_true_eq,beq_iff_eq] at e2⊢;constructor
  ·rintro ⟨⟨⟨_,h2⟩,h3⟩,h4⟩
   grind
  ·intro h
   have h5:plan.edges.length≤31:=by grind
   have:=e2 h5
   grind
 ·by_cases h2:kind=2
  ·subst h2
   rw [Bool.eq_iff_iff];simp only [okI,kf,vM,jaC,jde,Bool.and_eq_true,decide_eq_true_eq,beq_iff_eq,Dd.mk.injEq,List.all_cons,List.all_nil,Int.reduceEq,if_false,if_true,true_and,and_true];constructor
   ·rintro h;grind
   ·rintro ⟨⟨⟨⟨⟨a,b⟩,c⟩,d⟩,e⟩,f⟩
    subst f;exact ⟨⟨⟨by omega,by rw [hz];omega⟩,a,rfl,b,c⟩,d,e⟩
  ·by_cases h34:kind=3∨kind=4
   ·rw [Bool.eq_iff_iff]
    simp only [okI,kf,vM,jaC,jde,h1,h2,h34,Bool.and_eq_true,decide_eq_true_eq,beq_iff_eq,Dd.mk.injEq,List.all_cons,List.all_nil,if_false,if_true,true_and,and_true];constructor
    ·rintro h;grind
    ·rintro ⟨⟨⟨⟨⟨a,b⟩,c⟩,d⟩,e⟩,f⟩
     subst f;exact ⟨⟨⟨by omega,by rw [hz];omega⟩,rfl,d,e⟩,a,b,c⟩
   ·by_cases h67:kind=6∨kind=7
    ·have h58:¬(kind=5∨kind=8):=by omega
     rw [Bool.eq_iff_iff];simp only [okI,kf,vM,jaC,jde,h1,h2,h34,h67,h58,Bool.and_eq_true,decide_eq_true_eq,beq_iff_eq,Dd.mk.injEq,List.all_cons,List.all_nil,if_false,if_true,true_and,and_true];constructor
     ·rintro h;grind
     ·rintro ⟨⟨⟨⟨⟨a,b⟩,c⟩,d⟩,e⟩,f⟩
      subst f;exact ⟨⟨⟨by omega,by rw [hz];omega⟩,rfl,b,c,d,e⟩,a⟩
    ·by_cases h58:kind=5∨kind=8
     ·rw [Bool.eq_iff_iff]
      simp only [okI,kf,vM,jaC,jde,h1,h2,h34,h67,h58,Bool.and_eq_true,decide_eq_true_eq,beq_iff_eq,Dd.mk.injEq,List.all_cons,List.all_nil,if_false,if_true,true_and,and_true];constructor
      ·rintro h;grind
      ·rintro ⟨⟨⟨⟨⟨a,b⟩,c⟩,d⟩,e⟩,f⟩
       subst f;exact ⟨⟨by omega,by rw [hz];omega⟩,a,rfl,b,c,d,e⟩
     ·have hk:¬(1≤kind∧kind≤8):=by omega
      simp [okI,kf,h1,h2,h34,h67,h58,hk]
theorem jl8 (d:Dd) (hb:jhM d≤2000000):kj Tryz.prog 30 [.agg (jp d)] (.c (.val (.bool (kf d)))):=by
 rw [←jt9];exact jkn d hb
end Go.Proofs.YtcehjhiglmifjaaGreat
