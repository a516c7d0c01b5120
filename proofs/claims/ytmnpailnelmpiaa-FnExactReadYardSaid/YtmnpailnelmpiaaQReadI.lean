/- Parts. -/
import Derived.Test.YtmnpailnelmpiaaQNumZ
import Derived.Test.YtmnpailnelmpiaaQTextY
set_option linter.unusedSimpArgs false
set_option linter.unusedVariables false
set_option maxHeartbeats 8000000
set_option maxRecDepth 100000
namespace Go.Proofs.Ytmnpailnelmpiaa
open Go.RowKit Go.Sort
structure RowsNAt {σ α:Type} (rd:σ→α×σ) (m:Nat) (s0:σ) (i:Nat) (E:List α) (s:σ):Prop where
 le:i≤m
 len:E.length=i
 eq:qZ rd m ([],s0)=qZ rd (m-i) (E,s)
theorem RowsNAt.start {σ α:Type} {rd:σ→α×σ} (m:Nat) (s0:σ):RowsNAt rd m s0 0 [] s0:=⟨Nat.zero_le _,rfl,rfl⟩
theorem RowsNAt.next {σ α:Type} {rd:σ→α×σ} {m i:Nat} {s0 s:σ} {E:List α} (h:RowsNAt rd m s0 i E s) (hi:i<m):RowsNAt rd m s0 (i+1) (E++[(rd s).1]) (rd s).2:=by
 refine ⟨hi,by simp [h.len],?_⟩
 rw [h.eq,show m-i=m-(i+1)+1 by omega,qZ]
theorem RowsNAt.stop {σ α:Type} {rd:σ→α×σ} {m i:Nat} {s0 s:σ} {E:List α} (h:RowsNAt rd m s0 i E s) (hs:i=m):qZ rd m ([],s0)=(E,s):=by
 rw [h.eq,hs,Nat.sub_self];rfl
abbrev jls (L:List Int):=rdSh none (kE L) (fun s:Nat×Bool=>s.2) (fun s=>(s.1,true))
abbrev jpF (L:List Int):=rdRn none none (kE L) (fun s:Nat×Bool=>s.2) (fun s=>(s.1,true))
def shR (S:List (List En)) (E:List En):List (List En):=S++E::List.replicate (3-S.length) []
theorem jrx {S:List (List En)} {E:List En} (h:S.length<4):(shR S E).length=4:=by simp only [shR,List.length_append,List.length_cons,List.length_replicate];omega
theorem jry (S:List (List En)) (E:List En):(shR S E)[S.length]?=some E:=by simp [shR]
theorem jrw (S:List (List En)) (E E':List En):(shR S E).set S.length E'=shR S E':=by simp [shR,List.set_append]
def shQ (S:List (List En)):List (List En):=S++List.replicate (4-S.length) []
theorem shQ_R {S:List (List En)} (h:S.length<4):shQ S=shR S []:=by
 have e:4-S.length=(3-S.length)+1:=by omega
 simp only [shQ,shR,e,List.replicate_succ]
theorem shR_Q {S:List (List En)} (E:List En) (h:S.length<4):shR S E=shQ (S++[E]):=by
 have e:4-(S++[E]).length=3-S.length:=by rw [List.length_append];show 4-(S.length+1)=_;omega
 rw [shQ,e,shR,List.append_assoc];rfl
theorem shQ_4 {S:List (List En)} (h:S.length=4):shQ S=S:=by simp [shQ,h]
theorem jsO {s:St} {g c k:Nat} {x:Value} {R:List D→St→Prop} {η:jm} {sh:List (List En)} {l:List En} (h:sh[k]?=some l):slkK s g c k tEn 4 x R η (kO sh)=(η [k]=x∧∀η',η' []=η []→R (l.flatMap jk) (s.setO g ((s.o g).putOwn c (jbh sh k x) η'))):=by
 rw [show kO sh=.sl 1 joQ (sh.flatMap fun es=>[js es]) from rfl,jpj,jsy h,juP,joS]
 simp only [true_and,and_self];rfl
theorem jni (l:List Rn) (id st:Int) (p:Pl) (T:List Tk):D.sl 8 tRn (l.flatMap jc++[.val (.int .i64 id),.val (.int .i64 p.prio),.val (.int .i64 p.most),.val (.int .i64 p.wait),.val (.int .i64 p.tasks),jv p.edges,.val (.int .i64 st),km T])=kr (l++[⟨id,p,st,T⟩]):=jko l ⟨id,p,st,T⟩
abbrev joN (b ty:Nat) (id:Int) (p:Pl) (f:jm) (st:Int) (T:List Tk) (η:jm):Ob:=.box b ty [.a (.v (.int .i64 id)),.a (.v (.int .i64 p.prio)),.a (.v (.int .i64 p.most)),.a (.v (.int .i64 p.wait)),.a (.v (.int .i64 p.tasks)),.own (jv p.edges) f,.a (.v (.int .i64 st)),.own (km T) η]
theorem mks_n {P:Program} {β:Nat} {s:St} {K:St→Prop} {d:Option Nat} {gd:Option (Nat×Bool)} {e size bytes:Nat} {zs:List D} {l c:X} (n:Nat) (h1:s.ev l=.c (.v (.int .i64 (n:Int)))) (h2:s.ev c=.c (.v (.int .i64 (n:Int)))) (h3:bytes*n≤281474976710656) (h4:n≤maxLen)
 (h5:∀η,K ((s.addO [(100*(β+d.getD 0),.loose (.sl size e ((List.replicate n zs).flatten)) η)]).put d (.c (.h (100*(β+d.getD 0)) 0 [] (η []))))):qb P β ⟨d,gd,.mks e size bytes zs l c⟩ s K:=by
 rw [ji5];exact ⟨_,_,n,h1,h2,h3,h4,h5⟩
abbrev jvu (b ty:Nat) (now seq:Int) (sh:List (List En)) (e1:jm):Ob:=.box b ty [.a (.v (.int .i64 now)),.a (.v (.int .i64 seq)),.own (kO sh) e1,.a (.v (.slice none 0 0))]
def jaP:C:=iS [iA 2 (.alloc 42 [.int .i64 0,.int .i64 0,.slice none 0 0,.slice none 0 0]),iA 3 (iO false)] (iS [iA 16 (iM 0),iA 17 (.call 31 [.t 16]),iA 15 (iM 17),iA 18 (iE 15 0),iA 19 (iE 15 1),iA 4 (iM 18),iA 5 (iM 19)] (.seq (iS [iA 20 (iM 5),iA 21 (iU 20)] (iD 21 (iS [iA 22 (.bld [.int .i64 0,.int .i64 0,.slice none 0 0,.slice none 0 0] []),iC (.st 4 [none,none,some (1,74),some (8,78)] (.t 2) (.t 22)),iA 3 (iO false)] .ret) .skip)) (iS [iA 23 (iM 4),iA 24 (.bld [.slice none 0 0,.bool false] [(0,1,.t 23)]),iA 25 (.box 63 2 (.t 24)),iA 6 (iM 25)] (.seq (.dreg (T.pure 0 (iA 26 (iM 6)) (T.pure 2 (iA 28 (iM 6)) (T.alt (iA 27 (.call 32 [.t 26])) [2] (T.alt (iA 29 (.call 32 [.t 28])) [] (T.alt (iA 30 (.mks 74 1 24 [D.sl 4 82 []] (.c (.int .i64 4)) (.c (.int .i64 4)))) [2,0] (T.pure 5 (iA 31 (.bld [.int .i64 0,.int .i64 0,.slice none 0 0,.slice none 0 0] [(0,1,.t 27),(1,1,.t 29),(2,1,.t 30)])) (T.alt (iA 7 (.alloc 42 [.int .i64 0,.int .i64 0,.slice none 0 0,.slice none 0 0])) [5,2,0] (T.alt (iC (.st 4 [none,none,some (1,74),some (8,78)] (.t 7) (.t 31))) [] T.done T.stop) T.stop)) (T.alt (iA 7 (.alloc 42 [.int .i64 0,.int .i64 0,.slice none 0 0,.slice none 0 0])) [2,0] (T.alt (iA 30 (.mks 74 1 24 [D.sl 4 82 []] (.c (.int .i64 4)) (.c (.int .i64 4)))) [2,0] (T.pure 5 (iA 31 (.bld [.int .i64 0,.int .i64 0,.slice none 0 0,.slice none 0 0] [(0,1,.t 27),(1,1,.t 29),(2,1,.t 30)])) (T.alt (iC (.st 4 [none,none,some (1,74),some (8,78)] (.t 7) (.t 31))) [] T.done T.stop)) T.stop) T.stop)) (T.alt (iA 30 (.mks 74 1 24 [D.sl 4 82 []] (.c (.int .i64 4)) (.c (.int .i64 4)))) [2,0] (T.alt (iA 29 (.call 32 [.t 28])) [] (T.pure 5 (iA 31 (.bld [.int .i64 0,.int .i64 0,.slice none 0 0,.slice none 0 0] [(0,1,.t 27),(1,1,.t 29),(2,1,.t 30)])) (T.alt (iA 7 (.alloc 42 [.int .i64 0,.int .i64 0,.slice none 0 0,.slice none 0 0])) [5,2,0] (T.alt (iC (.st 4 [none,none,some (1,74),some (8,78)] (.t 7) (.t 31))) [] T.done T.stop) T.stop)) (T.alt (iA 7 (.alloc 42 [.int .i64 0,.int .i64 0,.slice none 0 0,.slice none 0 0])) [2,0] (T.alt (iA 29 (.call 32 [.t 28])) [] (T.pure 5 (iA 31 (.bld [.int .i64 0,.int .i64 0,.slice none 0 0,.slice none 0 0] [(0,1,.t 27),(1,1,.t 29),(2,1,.t 30)])) (T.alt (iC (.st 4 [none,none,some (1,74),some (8,78)] (.t 7) (.t 31))) [] T.done T.stop)) T.stop) T.stop)) (T.alt (iA 7 (.alloc 42 [.int .i64 0,.int .i64 0,.slice none 0 0,.slice none 0 0])) [2,0] (T.alt (iA 29 (.call 32 [.t 28])) [] (T.alt (iA 30 (.mks 74 1 24 [D.sl 4 82 []] (.c (.int .i64 4)) (.c (.int .i64 4)))) [2,0] (T.pure 5 (iA 31 (.bld [.int .i64 0,.int .i64 0,.slice none 0 0,.slice none 0 0] [(0,1,.t 27),(1,1,.t 29),(2,1,.t 30)])) (T.alt (iC (.st 4 [none,none,some (1,74),some (8,78)] (.t 7) (.t 31))) [] T.done T.stop)) T.stop) (T.alt (iA 30 (.mks 74 1 24 [D.sl 4 82 []] (.c (.int .i64 4)) (.c (.int .i64 4)))) [2,0] (T.alt (iA 29 (.call 32 [.t 28])) [] (T.pure 5 (iA 31 (.bld [.int .i64 0,.int .i64 0,.slice none 0 0,.slice none 0 0] [(0,1,.t 27),(1,1,.t 29),(2,1,.t 30)])) (T.alt (iC (.st 4 [none,none,some (1,74),some (8,78)] (.t 7) (.t 31))) [] T.done T.stop)) T.stop) T.stop)) T.stop))) (T.alt (iA 30 (.mks 74 1 24 [D.sl 4 82 []] (.c (.int .i64 4)) (.c (.int .i64 4)))) [2,0] (T.alt (iA 27 (.call 32 [.t 26])) [2] (T.alt (iA 29 (.call 32 [.t 28])) [] (T.pure 5 (iA 31 (.bld [.int .i64 0,.int .i64 0,.slice none 0 0,.slice none 0 0] [(0,1,.t 27),(1,1,.t 29),(2,1,.t 30)])) (T.alt (iA 7 (.alloc 42 [.int .i64 0,.int .i64 0,.slice none 0 0,.slice none 0 0])) [5,2,0] (T.alt (iC (.st 4 [none,none,some (1,74),some (8,78)] (.t 7) (.t 31))) [] T.done T.stop) T.stop)) (T.alt (iA 7 (.alloc 42 [.int .i64 0,.int .i64 0,.slice none 0 0,.slice none 0 0])) [2,0] (T.alt (iA 29 (.call 32 [.t 28])) [] (T.pure 5 (iA 31 (.bld [.int .i64 0,.int .i64 0,.slice none 0 0,.slice none 0 0] [(0,1,.t 27),(1,1,.t 29),(2,1,.t 30)])) (T.alt (iC (.st 4 [none,none,some (1,74),some (8,78)] (.t 7) (.t 31))) [] T.done T.stop)) T.stop) T.stop)) (T.alt (iA 7 (.alloc 42 [.int .i64 0,.int .i64 0,.slice none 0 0,.slice none 0 0])) [2,0] (T.alt (iA 27 (.call 32 [.t 26])) [2] (T.alt (iA 29 (.call 32 [.t 28])) [] (T.pure 5 (iA 31 (.bld [.int .i64 0,.int .i64 0,.slice none 0 0,.slice none 0 0] [(0,1,.t 27),(1,1,.t 29),(2,1,.t 30)])) (T.alt (iC (.st 4 [none,none,some (1,74),some (8,78)] (.t 7) (.t 31))) [] T.done T.stop)) T.stop) T.stop) T.stop)) (T.alt (iA 7 (.alloc 42 [.int .i64 0,.int .i64 0,.slice none 0 0,.slice none 0 0])) [2,0] (T.alt (iA 27 (.call 32 [.t 26])) [2] (T.alt (iA 29 (.call 32 [.t 28])) [] (T.alt (iA 30 (.mks 74 1 24 [D.sl 4 82 []] (.c (.int .i64 4)) (.c (.int .i64 4)))) [2,0] (T.pure 5 (iA 31 (.bld [.int .i64 0,.int .i64 0,.slice none 0 0,.slice none 0 0] [(0,1,.t 27),(1,1,.t 29),(2,1,.t 30)])) (T.alt (iC (.st 4 [none,none,some (1,74),some (8,78)] (.t 7) (.t 31))) [] T.done T.stop)) T.stop) (T.alt (iA 30 (.mks 74 1 24 [D.sl 4 82 []] (.c (.int .i64 4)) (.c (.int .i64 4)))) [2,0] (T.alt (iA 29 (.call 32 [.t 28])) [] (T.pure 5 (iA 31 (.bld [.int .i64 0,.int .i64 0,.slice none 0 0,.slice none 0 0] [(0,1,.t 27),(1,1,.t 29),(2,1,.t 30)])) (T.alt (iC (.st 4 [none,none,some (1,74),some (8,78)] (.t 7) (.t 31))) [] T.done T.stop)) T.stop) T.stop)) (T.alt (iA 30 (.mks 74 1 24 [D.sl 4 82 []] (.c (.int .i64 4)) (.c (.int .i64 4)))) [2,0] (T.alt (iA 27 (.call 32 [.t 26])) [2] (T.alt (iA 29 (.call 32 [.t 28])) [] (T.pure 5 (iA 31 (.bld [.int .i64 0,.int .i64 0,.slice none 0 0,.slice none 0 0] [(0,1,.t 27),(1,1,.t 29),(2,1,.t 30)])) (T.alt (iC (.st 4 [none,none,some (1,74),some (8,78)] (.t 7) (.t 31))) [] T.done T.stop)) T.stop) T.stop) T.stop)) T.stop)))))) (.seq (iS [iA 32 (iF 2 7),iA 33 (iL 32),iA 34 (iG 33),iA 35 (iN 0)] (.blk 0 (.loop (iS [iA 36 (iP .lss 3 35 34)] (.seq (iD 36 .skip (.exit 0)) (.seq (.blk 1 (iS [iA 37 (iM 35),iA 8 (iM 37)] (iS [iA 38 (iM 6),iA 39 (.call 32 [.t 38]),iA 9 (iM 39)] (iS [iA 10 (iN 0)] (.blk 2 (.loop (.seq (iS [iA 40 (iM 10),iA 41 (iM 9),iA 42 (iP .lss 3 40 41),iA 43 (iM 42),iB 44 43 true (iM 6),iB 45 43 true (iF 0 44),iB 46 43 true (iF 1 45),iB 47 43 true (iL 46),iB 48 43 true (iU 47),iA 49 (.pick (.t 43) (.t 48) (.c (.bool false)))] (iD 49 .skip (.exit 2))) (.seq (.blk 3 (.dreg (T.pure 0 (iA 52 (iF 2 7)) (T.pure 1 (iA 53 (iL 52)) (T.pure 2 (iA 54 (iM 8)) (T.pure 3 (iA 55 (iF 2 7)) (T.pure 4 (iA 56 (iL 55)) (T.pure 5 (iA 57 (iM 8)) (T.pure 6 (iA 58 (iI 1 56 57)) (T.pure 7 (iA 59 (iL 58)) (T.pure 8 (iA 60 (iM 6)) (T.pure 10 (iA 62 (iM 6)) (T.pure 12 (iA 64 (iM 6)) (T.pure 14 (iA 66 (iM 6)) (T.alt (iA 61 (.call 32 [.t 60])) [14,12,10,7,6,5,4,3,2,1,0] (T.alt (iA 63 (.call 32 [.t 62])) [14,12,7,6,5,4,3,2,1,0] (T.alt (iA 65 (.call 32 [.t 64])) [14,7,6,5,4,3,2,1,0] (T.alt (iA 67 (.call 32 [.t 66])) [7,6,5,4,3,2,1,0] (T.pure 16 (iA 68 (.bld [.int .i64 0,.int .i64 0,.int .i64 0,.int .i64 0] [(0,1,.t 61),(1,1,.t 63),(2,1,.t 65),(3,1,.t 67)])) (T.alt (iA 69 (.bsl 82 4 1 [none,none,none,none] [(0,4,.t 68)])) [7,6,5,4,3,2,1,0] (T.alt (iA 70 (.app 82 4 32 (.t 59) (.t 69))) [2,1,0] (T.pure 19 (iA 71 (iI 1 53 54)) (T.alt (iC (.st 1 [some (4,82)] (.t 71) (.t 70))) [] T.done T.stop)) T.stop) T.stop)) T.stop) T.stop) T.stop) T.stop))))))))))))))) (.reg [iA 50 (iM 10),iA 51 (iQ .add 3 50 1),iA 10 (iM 51)]))))))))) (.reg [iA 72 (iQ .add 3 35 1),iA 35 (iM 72)]))))))) (iS [iA 73 (iM 6),iA 74 (.call 32 [.t 73]),iA 11 (iM 74)] (.seq (iS [iA 12 (iN 0)] (.blk 4 (.loop (.seq (iS [iA 75 (iM 12),iA 76 (iM 11),iA 77 (iP .lss 3 75 76),iA 78 (iM 77),iB 79 78 true (iM 6),iB 80 78 true (iF 0 79),iB 81 78 true (iF 1 80),iB 82 78 true (iL 81),iB 83 78 true (iU 82),iA 84 (.pick (.t 78) (.t 83) (.c (.bool false)))] (iD 84 .skip (.exit 4))) (.seq (.blk 5 (iS [iA 87 (iM 6),iA 88 (.call 32 [.t 87]),iA 89 (.bld [.int .i64 0,.int .i64 0,.int .i64 0,.int .i64 0,.int .i64 0,.slice none 0 0,.int .i64 0,.slice none 0 0] [(0,1,.t 88)]),iA 13 (.alloc 78 [.int .i64 0,.int .i64 0,.int .i64 0,.int .i64 0,.int .i64 0,.slice none 0 0,.int .i64 0,.slice none 0 0]),iC (.st 8 [none,none,none,none,none,some (2,103),none,some (4,84)] (.t 13) (.t 89))] (iS [iA 90 (iM 6),iA 91 (.call 33 [.t 90]),iA 92 (iF 1 13),iC (.st 5 [none,none,none,none,some (2,103)] (.t 92) (.t 91))] (iS [iA 93 (iM 6),iA 94 (.call 32 [.t 93]),iA 95 (iF 6 13),iC (.st 1 [none] (.t 95) (.t 94))] (.seq (iS [iA 14 (iN 0)] (.blk 6 (.loop (.seq (iS [iA 96 (iM 14),iA 97 (iF 1 13),iA 98 (iF 3 97),iA 99 (iL 98),iA 100 (iP .lss 3 96 99),iA 101 (iM 100),iB 102 101 true (iM 6),iB 103 101 true (iF 0 102),iB 104 101 true (iF 1 103),iB 105 101 true (iL 104),iB 106 101 true (iU 105),iA 107 (.pick (.t 101) (.t 106) (.c (.bool false)))] (iD 107 .skip (.exit 6))) (.seq (.blk 7 (.dreg (T.pure 0 (iA 110 (iF 7 13)) (T.pure 1 (iA 111 (iL 110)) (T.pure 2 (iA 112 (iM 6)) (T.pure 4 (iA 114 (iM 6)) (T.pure 6 (iA 116 (iM 6)) (T.pure 8 (iA 118 (iM 6)) (T.alt (iA 113 (.call 32 [.t 112])) [8,6,4,1,0] (T.alt (iA 115 (.call 32 [.t 114])) [8,6,1,0] (T.alt (iA 117 (.call 32 [.t 116])) [8,1,0] (T.alt (iA 119 (.call 32 [.t 118])) [1,0] (T.pure 10 (iA 120 (.bld [.int .i64 0,.int .i64 0,.int .i64 0,.int .i64 0] [(0,1,.t 113),(1,1,.t 115),(2,1,.t 117),(3,1,.t 119)])) (T.alt (iA 121 (.bsl 84 4 1 [none,none,none,none] [(0,4,.t 120)])) [1,0] (T.alt (iA 122 (.app 84 4 32 (.t 111) (.t 121))) [] (T.pure 13 (iA 123 (iF 7 13)) (T.alt (iC (.st 1 [some (4,84)] (.t 123) (.t 122))) [] T.done T.stop)) T.stop) T.stop)) T.stop) T.stop) T.stop) T.stop))))))))) (.reg [iA 108 (iM 14),iA 109 (iQ .add 3 108 1),iA 14 (iM 109)])))))) (.reg [iA 124 (iF 3 7),iA 125 (iL 124),iA 126 (iT 8 13),iA 127 (.bsl 78 8 1 [none,none,none,none,none,some (2,103),none,some (4,84)] [(0,8,.t 126)]),iA 128 (.app 78 8 96 (.t 125) (.t 127)),iA 129 (iF 3 7),iC (.st 1 [some (8,78)] (.t 129) (.t 128))])))))) (.reg [iA 85 (iM 12),iA 86 (iQ .add 3 85 1),iA 12 (iM 86)])))))) (.seq (iS [iA 130 (iM 6),iA 131 (iF 0 130),iA 132 (iF 1 131),iA 133 (iL 132),iA 134 (iM 133),iB 135 134 false (iT 4 7),iB 136 134 false (.call 46 [.t 135]),iB 137 134 false (iU 136),iA 138 (.pick (.t 134) (.c (.bool true)) (.t 137)),iA 139 (iM 138),iB 140 139 false (iT 4 7),iB 141 139 false (.call 47 [.t 140]),iB 142 139 false (iM 0),iB 143 139 false (iP .neq 9 141 142),iA 144 (.pick (.t 139) (.c (.bool true)) (.t 143))] (iD 144 (iS [iA 145 (.bld [.int .i64 0,.int .i64 0,.slice none 0 0,.slice none 0 0] []),iC (.st 4 [none,none,some (1,74),some (8,78)] (.t 2) (.t 145)),iA 3 (iO false)] .ret) .skip)) (iS [iA 146 (iT 4 7),iC (.st 4 [none,none,some (1,74),some (8,78)] (.t 2) (.t 146)),iA 3 (iO true)] .ret)))))))))
theorem jcz:fnC Try.prog Try.f18=some (jaP,[.cell 2 true 4,.t 3],147):=by kernel_rfl
theorem je3 (t:ByteArray) (ht:t.size≤1048576):kg Try.prog 18 [.c (.val (.string t))] (.tup [(true,jd (ve t).1),(false,[.val (.bool (ve t).2)])]):=by
 refine jeX [[1,1,1,1],[1,1,1,1,1],[1,1,1,1,1,0,1,0,0,1,1],[1,1,1,1,1,0,1,0,0,1,1,1],[1,1,1,1,1,1,1],[1,1,1,1,1,1,1,0,1,0,0,1,0,0,1,1],[1,1,1,1,1,1,1,0,1,0,0,1,0,0,1,1,1],[1,1,1,1,1,1,1,0,1,0,0,1,0,0,1,1,1,1],[1,1,1,1,1,1,1,1]] Try.func18 jcz (by simp) ?_
 unfold jaP;simp only [C.ghs,C.ghAt,List.foldr];have ht9:t.size≤1000000000:=by omega
 simp only [go_sem];intro b2;refine jb (jaq t ht9) (by simp only [go_sem]) fun η17=>?_
 simp only [go_sem];cases hrv:rvF t.size t.data.toList with
 |none=>
  have hr:ve t=(ydZ,false):=by rw [ve,hrv]
  have hrr:rvR t=([],false):=by rw [rvR,hrv]
  rw [hr];simp only [go_sem,hrr,jd,jT,jH];refine vT _ _ _ _ _ ?_;simp only [go_sem,jd,jT,jH]
 |some L=>
 have hrr:rvR t=(L,true):=by rw [rvR,hrv]
 have hLt:L.length≤t.size:=by have:=ji4 _ _ _ hrv;rwa [Array.length_toList] at this
 have hin:=(jet _ _ _ hrv).2;have hL9:L.length≤1000000000:=by omega
 simp only [go_sem,hrr];intro b25;refine qW ?_;refine WkK.wk (s':=St.of [(0,.c (.v (.string t))),(2,Bx 200 b2),(6,Bx 88 b25)] [(200,ZYd b2 tYd),(88,.box b25 63 [.own (jj L) (η17 0),.a (.v (.bool false))])]) (jo [some 200,some 2500] (by simp only [go_sem]<;>and_intros<;>first|rfl|assumption|trivial)) ?_
 generalize η17 0=ηL;refine jmw 88 0 87 (d:=jj L) (η:=ηL) rfl rfl rfl (by decide) (show 0<1 from Nat.zero_lt_one) ?_
 refine WkK.wk (s':=St.of [(0,.c (.v (.string t))),(2,Bx 200 b2),(6,Bx 88 b25)] [(200,ZYd b2 tYd),(88,kn b25 63 ηL L (0,false)),(87,.loose (jj L) ηL)]) (jo [some 200,some 88,some 87] (by simp only [go_sem,kn,Nat.sub_zero]<;>and_intros<;>first|rfl|assumption|trivial)) ?_
 refine WkK.of ?_;have s0:((0,false):Nat×Bool).1≤L.length:=Nat.zero_le _;have s1:=jM s0;generalize hq1:kE L (0,false)=q1 at*;have s2:=jM s1;generalize hq2:kE L q1.2=q2 at*;have hrep:D.sl 1 joQ (List.replicate 4 [D.sl 4 tEn []]).flatten=kO (shQ []):=rfl;refine jc3 (fun i:Nat×jm=>St.of [(0,.c (.v (.string t))),(2,Bx 200 b2),(6,Bx 88 b25),(7,Bx 700 i.1)] [(200,ZYd b2 tYd),(88,kn b25 63 ηL L q2.2),(87,.loose (jj L) ηL),(700,jvu i.1 tYd q1.1 q2.1 (shQ []) i.2)]) ?_ ?_
 ·simp only [go_sem]
  repeat' first
   |refine And.intro ?_ ?_
   |refine mks_n 4 rfl rfl (by decide) (by unfold maxLen;omega) fun _=>?_
   |(refine jl (jA L (0,false) b25 ηL _ s0 rfl rfl) rfl ?_;rw [hq1])
   |(refine jl (jA L q1.2 b25 ηL _ s1 rfl rfl) rfl ?_;rw [hq2])
   |intro _
   |(simp only [go_sem,hrep])
  all_goals exact ⟨(_,_),jo [some 200,some 88,some 87,some 700] (by simp only [go_sem]<;>and_intros<;>first|rfl|assumption|trivial)⟩
 rintro ⟨b7,e7⟩;have hq4:(shQ []).length=4:=rfl;simp only [go_sem,hq4];refine jp (fun i:(Nat×List (List En)×(Nat×Bool))×jm=>St.of [(0,.c (.v (.string t))),(2,Bx 200 b2),(6,Bx 88 b25),(7,Bx 700 b7),(34,Ni 4),(35,Ni i.1.1)] [(200,ZYd b2 tYd),(88,kn b25 63 ηL L i.1.2.2),(87,.loose (jj L) ηL),(700,jvu b7 tYd q1.1 q2.1 (shQ i.1.2.1) i.2)]) (fun i=>RowsNAt (jls L) 4 q2.2 i.1.1 i.1.2.1 i.1.2.2∧i.1.2.2.1≤L.length) (fun i=>4-i.1.1) ((0,[],q2.2),e7) (⟨RowsNAt.start _ _,s2⟩) (jo [some 200,some 88,some 87,some 700] (by simp only [go_sem]<;>and_intros<;>first|rfl|assumption|trivial)) ?_
 rintro ⟨⟨k,S,q⟩,e0⟩ ⟨hR,hq⟩;dsimp only at hR hq;have hle:=hR.le;obtain rfl:S.length=k:=hR.len;by_cases hlt:S.length<4
 ·have hlt':(S.length:Int)<(4:Int):=by omega
  have h0k:(0:Int)≤(S.length:Int):=by omega
  have hnx:=hR.next hlt;have hw:IntKind.i64.wrap ((S.length:Int)+1)=((S.length+1:Nat):Int):=ji (by omega) (by omega)
  simp only [go_sem,hlt'];refine qW (WkK.of ?_);refine jc3 (fun i:{i:(List En×(Nat×Bool))×jm//jls L q=i.1∧i.1.2.1≤L.length}=>St.of [(0,.c (.v (.string t))),(2,Bx 200 b2),(6,Bx 88 b25),(7,Bx 700 b7),(34,Ni 4),(35,Ni S.length)] [(200,ZYd b2 tYd),(88,kn b25 63 ηL L i.1.1.2),(87,.loose (jj L) ηL),(700,jvu b7 tYd q1.1 q2.1 (shR S i.1.1.1) i.1.2)]) ?_ ?_
  ·simp only [go_sem]
   refine jl (jA L q b25 ηL _ hq (by simp only [go_sem]) (by simp only [go_sem])) (by simp only [go_sem]) ?_
   have s9:=jM hq;have hm:=jjq (s:=q) hin;generalize hq9:kE L q=q9 at*;obtain ⟨m,hm0⟩:=Int.eq_ofNat_of_zero_le hm.1;have hm1:=hm.2;rw [hm0] at hm1;have hm':q9.1=(m:Int):=hm0;have hsQ:=shQ_R hlt;simp only [go_sem,hm'];refine jp (fun i:(Nat×List En×(Nat×Bool))×jm=>St.of [(0,.c (.v (.string t))),(2,Bx 200 b2),(6,Bx 88 b25),(7,Bx 700 b7),(8,Ni S.length),(9,Ni m),(10,Ni i.1.1),(34,Ni 4),(35,Ni S.length)] [(200,ZYd b2 tYd),(88,kn b25 63 ηL L i.1.2.2),(87,.loose (jj L) ηL),(700,jvu b7 tYd q1.1 q2.1 (shR S i.1.2.1) i.2)]) (fun i=>RowsAt (·.2) (ji9 (kE L)) m q9.2 i.1.1 i.1.2.1 i.1.2.2∧i.1.2.2.1≤L.length) (fun i=>m-i.1.1) ((0,[],q9.2),e0) (⟨RowsAt.start _ _,s9⟩) (jo [some 200,some 88,some 87,some 700] (by simp only [go_sem,hsQ]<;>and_intros<;>first|rfl|assumption|trivial)) ?_
   rintro ⟨⟨i,E,p⟩,e1⟩ ⟨hR2,hp⟩;dsimp only at hR2 hp;have hle2:=hR2.le;have hlen2:=hR2.len;by_cases hlt2:i<m;rotate_left
   ·have hlt2':¬(i:Int)<(m:Int):=by omega
    have hst:=hR2.stop (.inl (by omega))
    have hsh:jls L q=(E,p):=by simp only [jls,rdSh,hq9,zb,hm',Int.toNat_natCast,hst]
    simp only [go_sem,hlt2'];exact ⟨⟨((E,p),e1),hsh,hp⟩,jo [some 200,some 88,some 87,some 700] (by simp only [go_sem]<;>and_intros<;>first|rfl|assumption|trivial)⟩
   have hlt2':(i:Int)<(m:Int):=by omega
   obtain ⟨k,bad⟩:=p;cases bad;rotate_left
   ·have hst:=hR2.stop (.inr rfl)
    have hsh:jls L q=(E,(k,true)):=by simp only [jls,rdSh,hq9,zb,hm',Int.toNat_natCast,hst]
    simp only [go_sem,hlt2',kn,Bool.not_true];exact ⟨⟨((E,(k,true)),e1),hsh,hp⟩,jo [some 200,some 88,some 87,some 700] (by simp only [go_sem,kn]<;>and_intros<;>first|rfl|assumption|trivial)⟩
   ·have hnx2:=hR2.next hlt2 rfl
    have hl4:(shR S E).length=4:=jrx hlt;have hSl:=jry S E;have hns:S.length<(shR S E).length:=by omega
    have hi1:S.length+1≤((shR S E).flatMap fun es=>[js es]).length:=by have:=jqa hns;rwa [Nat.mul_one] at this
    have ha1:(((shR S E).flatMap fun es=>[js es]).drop S.length).take 1=[js E]:=by have:=jqH hSl;rwa [Nat.mul_one] at this
    have hw2:IntKind.i64.wrap ((i:Int)+1)=((i+1:Nat):Int):=ji (by omega) (by omega)
    have hx1:E.length+1≤maxLen:=by unfold maxLen;omega
    have hx2:(E.length+1)*32≤140737488355328:=by omega
    simp only [go_sem,hlt2',kn,Bool.not_false,h0k,hns,Nat.mul_one,ha1,hi1];refine jl (jA L (k,false) b25 ηL _ hp (by simp only [go_sem,kn]) (by simp only [go_sem])) (by simp only [go_sem]) ?_
    have t1:=jM hp;simp only [ji9] at hnx2;generalize hr1:kE L (k,false)=r1 at*;simp only [go_sem];refine jl (jA L r1.2 b25 ηL _ t1 (by simp only [go_sem]) (by simp only [go_sem])) (by simp only [go_sem]) ?_
    have t2:=jM t1;generalize hr2:kE L r1.2=r2 at*;simp only [go_sem];refine jl (jA L r2.2 b25 ηL _ t2 (by simp only [go_sem]) (by simp only [go_sem])) (by simp only [go_sem]) ?_
    have t3:=jM t2;generalize hr3:kE L r2.2=r3 at*;simp only [go_sem];refine jl (jA L r3.2 b25 ηL _ t3 (by simp only [go_sem]) (by simp only [go_sem])) (by simp only [go_sem]) ?_
    have t4:=jM t3;generalize hr4:kE L r3.2=r4 at*;simp only [go_sem,jsO hSl,hx1,hx2];intro ηb ηc hηc ηd;simp only [go_sem,hηc,jn4,jrt,jro,jp0,jmd,hns,h0k,Nat.mul_one,jpG,jjU];refine ⟨by omega,fun ηe hηe=>?_⟩
    exact ⟨((i+1,E++[⟨r1.1,r2.1,r3.1,r4.1⟩],r4.2),ηe),⟨hnx2,t4⟩,(jo [some 200,some 88,some 87,some 700] (by simp only [go_sem,hw2,kn,jrw]<;>and_intros<;>first|rfl|assumption|trivial)),by (try dsimp only);omega⟩
  rintro ⟨⟨⟨E,p⟩,e1⟩,hsh,hp⟩;dsimp only at hsh hp;rw [hsh] at hnx;dsimp only at hnx;have hrq:=shR_Q E hlt;simp only [go_sem,hw];exact ⟨((S.length+1,S++[E],p),e1),⟨hnx,hp⟩,(jo [some 200,some 88,some 87,some 700] (by simp only [go_sem,hrq]<;>and_intros<;>first|rfl|assumption|trivial)),by (try dsimp only);omega⟩
 have hS4:S.length=4:=by omega
 have hst1:=hR.stop hS4;have hlt':¬(S.length:Int)<(4:Int):=by omega
 rw [shQ_4 hS4];simp only [go_sem,hlt'];refine jl (jA L q b25 ηL _ hq (by simp only [go_sem]) (by simp only [go_sem])) (by simp only [go_sem]) ?_
 have s3:=jM hq;have hm:=jjq (s:=q) hin;generalize hq3:kE L q=q3 at*;obtain ⟨m,hm0⟩:=Int.eq_ofNat_of_zero_le hm.1;have hm1:=hm.2;rw [hm0] at hm1;have hm':q3.1=(m:Int):=hm0;simp only [go_sem,hm'];refine qW (WkK.of ?_);refine jc3 (fun i:{i:(List Rn×(Nat×Bool))×jm//kb (·.2) (jpF L) m ([],q3.2)=i.1∧i.1.2.1≤L.length}=>St.of [(0,.c (.v (.string t))),(2,Bx 200 b2),(6,Bx 88 b25),(7,Bx 700 b7)] [(200,ZYd b2 tYd),(88,kn b25 63 ηL L i.1.1.2),(87,.loose (jj L) ηL),(700,jj2 b7 tYd q1.1 q2.1 S e0 i.1.1.1 i.1.2)]) ?_ ?_
 ·simp only [go_sem]
  refine jp (fun i:(Nat×List Rn×(Nat×Bool))×jm=>St.of [(0,.c (.v (.string t))),(2,Bx 200 b2),(6,Bx 88 b25),(7,Bx 700 b7),(11,Ni m),(12,Ni i.1.1)] [(200,ZYd b2 tYd),(88,kn b25 63 ηL L i.1.2.2),(87,.loose (jj L) ηL),(700,jj2 b7 tYd q1.1 q2.1 S e0 i.1.2.1 i.2)]) (fun i=>RowsAt (·.2) (jpF L) m q3.2 i.1.1 i.1.2.1 i.1.2.2∧i.1.2.2.1≤L.length) (fun i=>m-i.1.1) ((0,[],q3.2),jad) (⟨RowsAt.start _ _,s3⟩) (jo [some 200,some 88,some 87,some 700] (by simp only [go_sem,jH]<;>and_intros<;>first|rfl|assumption|trivial)) ?_
  rintro ⟨⟨i0,E,p⟩,e1⟩ ⟨hR2,hp⟩;dsimp only at hR2 hp;have hle2:=hR2.le;have hlen2:=hR2.len;by_cases hlt2:i0<m;rotate_left
  ·have hlt2':¬(i0:Int)<(m:Int):=by omega
   have hst:=hR2.stop (.inl (by omega))
   simp only [go_sem,hlt2'];exact ⟨⟨((E,p),e1),hst,hp⟩,jo [some 200,some 88,some 87,some 700] (by simp only [go_sem]<;>and_intros<;>first|rfl|assumption|trivial)⟩
  have hlt2':(i0:Int)<(m:Int):=by omega
  obtain ⟨k,bad⟩:=p;cases bad;rotate_left
  ·have hst:=hR2.stop (.inr rfl)
   simp only [go_sem,hlt2',kn,Bool.not_true];exact ⟨⟨((E,(k,true)),e1),hst,hp⟩,jo [some 200,some 88,some 87,some 700] (by simp only [go_sem,kn]<;>and_intros<;>first|rfl|assumption|trivial)⟩
  have hnx2:=hR2.next hlt2 rfl;simp only [go_sem,hlt2',kn,Bool.not_false];refine jl (jA L (k,false) b25 ηL _ hp (by simp only [go_sem,kn]) (by simp only [go_sem])) (by simp only [go_sem]) ?_
  have t1:=jM hp;generalize hr1:kE L (k,false)=r1 at*;simp only [go_sem];intro b13;refine vq (by simp only [go_sem]) (jkB L hin hL9 r1.2 b25 ηL _ t1 (by simp only [go_sem]) (by simp only [go_sem]) (by simp only [go_sem])) fun av o' ⟨p,q',f,hpl,hq',hav,hx1,o1,o2,hk⟩=>?_
  subst hav;have k2:=hk 200 (by decide) (by decide) (by decide)
  have k7:=hk 700 (by decide) (by decide) (by decide)
  have k87:=hk 87 (by decide) (by decide) (by decide)
  have k13:=hk 1300 (by decide) (by decide) (by decide)
  simp only [go_sem] at k2 k7 k87 k13
  have hpt:qG p.tasks:=by
   have e:p.tasks=(rdPl none (kE L) (fun s:Nat×Bool=>s.2) (fun s=>(s.1,true)) r1.2).1.tasks:=by rw [hpl]
   rw [e];exact jg5 hin _
  simp only [go_sem,k13,hx1];refine qW ?_;refine WkK.wk (s':=St.of [(0,.c (.v (.string t))),(2,Bx 200 b2),(6,Bx 88 b25),(7,Bx 700 b7),(11,Ni m),(12,Ni i0),(13,Bx 1300 b13)] [(200,ZYd b2 tYd),(88,kn b25 63 ηL L q'),(87,.loose (jj L) ηL),(700,jj2 b7 tYd q1.1 q2.1 S e0 E e1),(86,.loose (jv p.edges) f),(1300,.box b13 tRn [.a (.v (.int .i64 r1.1)),.a (.v (.int .i64 p.prio)),.a (.v (.int .i64 p.most)),.a (.v (.int .i64 p.wait)),.a (.v (.int .i64 p.tasks)),.a (.v (f [])),.a (.v (.int .i64 0)),.a (.v (.slice none 0 0))])]) (jo [some 200,some 88,some 87,some 700,some 86,some 1300] (by simp only [go_sem,k2,k7,k87,o1,o2]<;>and_intros<;>first|rfl|assumption|trivial)) ?_
  refine zc 1300 5 86 (d:=jv p.edges) (η:=f) rfl rfl rfl ?_;refine WkK.of ?_;simp only [go_sem];refine jl (jA L q' b25 ηL _ hq' (by simp only [go_sem]) (by simp only [go_sem])) (by simp only [go_sem]) ?_
  have t3:=jM hq';generalize hr3:kE L q'=r3 at*;obtain ⟨mt,hmt0⟩:=Int.eq_ofNat_of_zero_le hpt.1;have hmt1:=hpt.2;rw [hmt0] at hmt1;have hmt':p.tasks=(mt:Int):=hmt0;simp only [go_sem];refine qW (WkK.of ?_);refine jc3 (fun j:{j:(List Tk×(Nat×Bool))×jm//kb (·.2) (jhw (kE L)) mt ([],r3.2)=j.1∧j.1.2.1≤L.length}=>St.of [(0,.c (.v (.string t))),(2,Bx 200 b2),(6,Bx 88 b25),(7,Bx 700 b7),(11,Ni m),(12,Ni i0),(13,Bx 1300 b13)] [(200,ZYd b2 tYd),(88,kn b25 63 ηL L j.1.1.2),(87,.loose (jj L) ηL),(700,jj2 b7 tYd q1.1 q2.1 S e0 E e1),(1300,joN b13 tRn r1.1 p f r3.1 j.1.1.1 j.1.2)]) ?_ ?_
  ·simp only [go_sem]
   refine jp (fun i:(Nat×List Tk×(Nat×Bool))×jm=>St.of [(0,.c (.v (.string t))),(2,Bx 200 b2),(6,Bx 88 b25),(7,Bx 700 b7),(11,Ni m),(12,Ni i0),(13,Bx 1300 b13),(14,Ni i.1.1)] [(200,ZYd b2 tYd),(88,kn b25 63 ηL L i.1.2.2),(87,.loose (jj L) ηL),(700,jj2 b7 tYd q1.1 q2.1 S e0 E e1),(1300,joN b13 tRn r1.1 p f r3.1 i.1.2.1 i.2)]) (fun i=>RowsAt (·.2) (jhw (kE L)) mt r3.2 i.1.1 i.1.2.1 i.1.2.2∧i.1.2.2.1≤L.length) (fun i=>mt-i.1.1) ((0,[],r3.2),jad) (⟨RowsAt.start _ _,t3⟩) (jo [some 200,some 88,some 87,some 700,some 1300] (by simp only [go_sem,zj]<;>and_intros<;>first|rfl|assumption|trivial)) ?_
   rintro ⟨⟨j,T,u⟩,e3⟩ ⟨hR3,hu⟩;dsimp only at hR3 hu;have hle3:=hR3.le;have hlen3:=hR3.len;by_cases hlt3:j<mt;rotate_left
   ·have hlt3':¬(j:Int)<(mt:Int):=by omega
    have hst:=hR3.stop (.inl (by omega))
    simp only [go_sem,hmt',hlt3'];exact ⟨⟨((T,u),e3),hst,hu⟩,jo [some 200,some 88,some 87,some 700,some 1300] (by simp only [go_sem,hmt']<;>and_intros<;>first|rfl|assumption|trivial)⟩
   have hlt3':(j:Int)<(mt:Int):=by omega
   obtain ⟨k',bad⟩:=u;cases bad;rotate_left
   ·have hst:=hR3.stop (.inr rfl)
    simp only [go_sem,hmt',hlt3',kn,Bool.not_true];exact ⟨⟨((T,(k',true)),e3),hst,hu⟩,jo [some 200,some 88,some 87,some 700,some 1300] (by simp only [go_sem,kn,hmt']<;>and_intros<;>first|rfl|assumption|trivial)⟩
   have hnx3:=hR3.next hlt3 rfl;simp only [go_sem,hmt',hlt3',kn,Bool.not_false];refine jl (jA L (k',false) b25 ηL _ hu (by simp only [go_sem,kn]) (by simp only [go_sem])) (by simp only [go_sem]) ?_
   have u1:=jM hu;simp only [jhw] at hnx3;generalize hv1:kE L (k',false)=v1 at*;simp only [go_sem];refine jl (jA L v1.2 b25 ηL _ u1 (by simp only [go_sem]) (by simp only [go_sem])) (by simp only [go_sem]) ?_
   have u2:=jM u1;generalize hv2:kE L v1.2=v2 at*;simp only [go_sem];refine jl (jA L v2.2 b25 ηL _ u2 (by simp only [go_sem]) (by simp only [go_sem])) (by simp only [go_sem]) ?_
   have u3:=jM u2;generalize hv3:kE L v2.2=v3 at*;simp only [go_sem];refine jl (jA L v3.2 b25 ηL _ u3 (by simp only [go_sem]) (by simp only [go_sem])) (by simp only [go_sem]) ?_
   have u4:=jM u3;generalize hv4:kE L v3.2=v4 at*;have hw3:IntKind.i64.wrap ((j:Int)+1)=((j+1:Nat):Int):=ji (by omega) (by omega)
   have hx3:T.length+1≤maxLen:=by unfold maxLen;omega
   have hx4:(T.length+1)*32≤140737488355328:=by omega
   simp only [go_sem,hx3,hx4];intro ηx ηy;exact ⟨((j+1,T++[⟨v1.1,v2.1,v3.1,v4.1⟩],v4.2),ηy),⟨hnx3,u4⟩,(jo [some 200,some 88,some 87,some 700,some 1300] (by simp only [go_sem,jiW,hw3,kn,hmt']<;>and_intros<;>first|rfl|assumption|trivial)),by (try dsimp only);omega⟩
  rintro ⟨⟨⟨T,q''⟩,e3⟩,hT,hq''⟩;dsimp only at hT hq''
  have hrn:jpF L (k,false)=(⟨r1.1,p,r3.1,T⟩,q''):=by
   simp only [jpF,rdRn,hr1,hpl,hr3,zb,hmt',Int.toNat_natCast,hT]
  rw [hrn] at hnx2;dsimp only at hnx2;have hx1':i0+1≤maxLen:=by unfold maxLen;omega
  have hx2:(i0+1)*96≤140737488355328:=by omega
  have hw2:IntKind.i64.wrap ((i0:Int)+1)=((i0+1:Nat):Int):=ji (by omega) (by omega)
  simp only [go_sem,hlen2,hx1',hx2];intro η7 η8;simp only [go_sem,hw2];exact ⟨((i0+1,E++[⟨r1.1,p,r3.1,T⟩],q''),η8),⟨hnx2,hq''⟩,(jo [some 200,some 88,some 87,some 700] (by simp only [go_sem,jni]<;>and_intros<;>first|rfl|assumption|trivial)),by (try dsimp only);omega⟩
 rintro ⟨⟨⟨R,q⟩,e1⟩,hst2,hq⟩;dsimp only at hst2 hq
 have hn:nI L=(⟨q1.1,q2.1,S,R⟩,q):=by
  simp only [nI,rdYI,hq1,hq2,hst1,hq3,hm',Int.toNat_natCast,hst2]
 have htot:=jtl L;rw [hn] at htot;dsimp only at htot;obtain ⟨k,bad⟩:=q;cases bad;rotate_left
 ·have hr:ve t=(ydZ,false):=by simp only [ve,hrv,hn,true_or,if_true]
  rw [hr];simp only [go_sem,kn,jd,jT,jH];refine vT _ _ _ _ _ ?_;simp only [go_sem,jd,jT,jH]
 simp only [go_sem,kn,jd];refine jb (jca ⟨q1.1,q2.1,S,R⟩ (by omega)) (by simp only [go_sem,jd]) fun η=>?_
 simp only [go_sem,jd];cases hok:jG ⟨q1.1,q2.1,S,R⟩
 ·have hr:ve t=(ydZ,false):=by
   simp only [ve,hrv,hn];rw [if_pos (.inr (.inl hok))]
  rw [hr];simp only [go_sem,hok,jd,jT,jH];refine vT _ _ _ _ _ ?_;simp only [go_sem,jd,jT,jH]
 simp only [go_sem,hok,jd];refine jb (je2 ⟨q1.1,q2.1,S,R⟩ (by omega)) (by simp only [go_sem,jd]) fun η=>?_
 simp only [go_sem,jd];by_cases he:jae ⟨q1.1,q2.1,S,R⟩=t;rotate_left
 ·have hr:ve t=(ydZ,false):=by
   simp only [ve,hrv,hn];rw [if_pos (.inr (.inr he))]
  have he':decide (jae ⟨q1.1,q2.1,S,R⟩=t)=false:=decide_eq_false he;rw [hr];simp only [go_sem,jcW,he',jd,jT,jH];refine vT _ _ _ _ _ ?_;simp only [go_sem,jd,jT,jH]
 ·have hr:ve t=(⟨q1.1,q2.1,S,R⟩,true):=by
   simp only [ve,hrv,hn];rw [if_neg];rintro (g|g|g)
   ·cases g
   ·rw [hok] at g;cases g
   ·exact g he
  have he':decide (jae ⟨q1.1,q2.1,S,R⟩=t)=true:=decide_eq_true he;rw [hr];simp only [go_sem,jcW,he',jd];refine vT _ _ _ _ _ ?_;simp only [go_sem,jd]
end Go.Proofs.Ytmnpailnelmpiaa
