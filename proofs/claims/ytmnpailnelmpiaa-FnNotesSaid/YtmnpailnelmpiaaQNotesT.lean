/- Parts. -/
import Derived.Test.YtmnpailnelmpiaaQNoteB
import Derived.Laws.Strings
set_option linter.unusedSimpArgs false
set_option linter.unusedVariables false
set_option maxHeartbeats 4000000
set_option maxRecDepth 100000
namespace Go.Proofs.Ytmnpailnelmpiaa
open Go.RowKit Go.Sort
def jeu:C:=iS [iA 2 (.mov (.c (.string ⟨⟨[]⟩⟩)))] (.seq (iS [iA 3 (iM 0),iA 4 (.call 66 [.t 3,.c (.int .i64 0),.c (.int .i64 4294967295)]),iA 5 (iU 4)] (iD 5 (iS [iA 2 (.mov (.c (.string ⟨⟨[]⟩⟩)))] .ret) .skip)) (iS [iA 6 (iM 0),iA 7 (iQ .quo 3 6 16777216),iA 8 (.cv (.num .u8) 0 (.t 7)),iA 9 (iM 0),iA 10 (iQ .quo 3 9 65536),iA 11 (iQ .rem 3 10 256),iA 12 (.cv (.num .u8) 0 (.t 11)),iA 13 (iM 0),iA 14 (iQ .quo 3 13 256),iA 15 (iQ .rem 3 14 256),iA 16 (.cv (.num .u8) 0 (.t 15)),iA 17 (iM 0),iA 18 (iQ .rem 3 17 256),iA 19 (.cv (.num .u8) 0 (.t 18)),iA 20 (.bsl 5 1 4 [none,none,none,none] [(0,1,.t 8),(1,1,.t 12),(2,1,.t 16),(3,1,.t 19)]),iA 21 (.cv .text 5 (.t 20)),iA 2 (iM 21)] .ret))
theorem jgv:fnC Try.prog Try.f74=some (jeu,[.t 2],22):=by kernel_rfl
def jeB:C:=iS [iA 2 (.mov (.c (.string ⟨⟨[]⟩⟩)))] (.seq (iS [iA 3 (iM 0),iA 4 (.call 61 [.t 3,.c (.int .i64 0),.c (.int .i64 4294967295)]),iA 5 (iU 4)] (iD 5 (iS [iA 2 (.mov (.c (.string ⟨⟨[]⟩⟩)))] .ret) .skip)) (iS [iA 6 (iM 0),iA 7 (.bin .shr 3 (.t 6) (.c (.int .u64 24))),iA 8 (.cv (.num .u8) 0 (.t 7)),iA 9 (iM 0),iA 10 (.bin .shr 3 (.t 9) (.c (.int .u64 16))),iA 11 (.cv (.num .u8) 0 (.t 10)),iA 12 (iM 0),iA 13 (.bin .shr 3 (.t 12) (.c (.int .u64 8))),iA 14 (.cv (.num .u8) 0 (.t 13)),iA 15 (iM 0),iA 16 (.cv (.num .u8) 0 (.t 15)),iA 17 (.bsl 5 1 4 [none,none,none,none] [(0,1,.t 8),(1,1,.t 11),(2,1,.t 14),(3,1,.t 16)]),iA 18 (.cv .text 5 (.t 17)),iA 2 (iM 18)] .ret))
theorem jgC:fnC Try.prog Try.f78=some (jeB,[.t 2],19):=by kernel_rfl
def jcW:C:=iS [iA 2 (.mov (.c (.string ⟨⟨[]⟩⟩)))] (.seq (iS [iA 3 (iM 0),iA 4 (.bin .eql 9 (.t 3) (.c (.string ⟨⟨[]⟩⟩))),iA 5 (iM 4),iB 6 5 false (iM 0),iB 7 5 false (.len true (.t 6)),iB 8 5 false (iQ .gtr 3 7 400),iA 9 (.pick (.t 5) (.c (.bool true)) (.t 8))] (iD 9 (iS [iA 2 (.mov (.c (.string ⟨⟨[]⟩⟩)))] .ret) .skip)) (iS [iA 10 (iM 0),iA 11 (.len true (.t 10)),iA 12 (.call 73 [.t 11]),iA 13 (iM 0),iA 14 (.call 75 [.t 13]),iA 15 (.call 74 [.t 14]),iA 16 (iP .add 9 12 15),iA 17 (iM 0),iA 18 (iP .add 9 16 17),iA 2 (iM 18)] .ret))
theorem jfu:fnC Try.prog Try.f38=some (jcW,[.t 2],19):=by kernel_rfl
def jc2:C:=iS [iA 2 (.mov (.c (.string ⟨⟨[]⟩⟩)))] (.seq (iS [iA 3 (iM 0),iA 4 (.len true (.t 3)),iA 5 (.call 61 [.t 4,.c (.int .i64 1),.c (.int .i64 400)]),iA 6 (iU 5)] (iD 6 (iS [iA 2 (.mov (.c (.string ⟨⟨[]⟩⟩)))] .ret) .skip)) (iS [iA 7 (iM 0),iA 8 (.len true (.t 7)),iA 9 (.call 77 [.t 8]),iA 10 (iM 0),iA 11 (.call 79 [.t 10]),iA 12 (.call 78 [.t 11]),iA 13 (iP .add 9 9 12),iA 14 (iM 0),iA 15 (iP .add 9 13 14),iA 2 (iM 15)] .ret))
theorem jfA:fnC Try.prog Try.f40=some (jc2,[.t 2],16):=by kernel_rfl
def jbR:C:=iS [iA 2 (.mov (.c (.string ⟨⟨[]⟩⟩)))] (iS [iA 3 (.mov (.c (.slice none 0 0)))] (.seq (iS [iA 7 (iM 0),iA 8 (iG 7),iA 9 (iN 0)] (.blk 0 (.loop (iS [iA 10 (iP .lss 3 9 8)] (.seq (iD 10 .skip (.exit 0)) (.seq (.blk 1 (iS [iA 11 (iI 1 7 9),iA 12 (iL 11),iA 5 (iM 12)] (iS [iA 13 (iM 5),iA 14 (.call 40 [.t 13]),iA 6 (iM 14)] (.seq (iS [iA 15 (iM 6),iA 16 (.bin .eql 9 (.t 15) (.c (.string ⟨⟨[]⟩⟩))),iA 17 (iM 16),iB 18 17 false (iM 3),iB 19 17 false (iG 18),iB 20 17 false (iM 6),iB 21 17 false (.len true (.t 20)),iB 22 17 false (iP .add 3 19 21),iB 23 17 false (iQ .gtr 3 22 60000),iA 24 (.pick (.t 17) (.c (.bool true)) (.t 23))] (iD 24 (iS [iA 2 (.mov (.c (.string ⟨⟨[]⟩⟩)))] .ret) .skip)) (.reg [iA 25 (iM 3),iA 26 (iM 6),iA 27 (.apps 5 (.t 25) (.t 26)),iA 3 (iM 27)]))))) (.reg [iA 28 (iQ .add 3 9 1),iA 9 (iM 28)]))))))) (iS [iA 29 (iM 3),iA 30 (.cv .text 5 (.t 29)),iA 2 (iM 30)] .ret)))
theorem jeh:fnC Try.prog Try.f56=some (jbR,[.t 2],31):=by kernel_rfl
def jaY:C:=iS [iA 2 (.mov (.c (.string ⟨⟨[]⟩⟩)))] (.seq (iS [iA 6 (iM 0),iA 7 (iG 6),iA 8 (iQ .gtr 3 7 400)] (iD 8 (iS [iA 2 (.mov (.c (.string ⟨⟨[]⟩⟩)))] .ret) .skip)) (iS [iA 3 (.mov (.c (.slice none 0 0)))] (.seq (iS [iA 9 (iM 0),iA 10 (iG 9),iA 11 (iN 0)] (.blk 0 (.loop (iS [iA 12 (iP .lss 3 11 10)] (.seq (iD 12 .skip (.exit 0)) (.seq (.blk 1 (iS [iA 13 (iI 12 9 11),iA 14 (iT 12 13),iA 5 (.alloc 28 [.int .i64 0,.int .i64 0,.int .i64 0,.int .i64 0,.int .i64 0,.int .i64 0,.int .i64 0,.slice none 0 0,.int .i64 0,.int .i64 0,.int .i64 0,.int .i64 0]),iC (.st 12 [none,none,none,none,none,none,none,some (2,103),none,none,none,none] (.t 5) (.t 14))] (.reg [iA 15 (iM 3),iA 16 (iT 12 5),iA 17 (.call 27 [.t 16]),iA 18 (.bsl 9 1 1 [none] [(0,1,.t 17)]),iA 19 (.app 9 1 16 (.t 15) (.t 18)),iA 3 (iM 19)]))) (.reg [iA 20 (iQ .add 3 11 1),iA 11 (iM 20)]))))))) (iS [iA 21 (iM 3),iA 22 (.call 56 [.t 21]),iA 2 (iM 22)] .ret))))
theorem jdr:fnC Try.prog Try.f24=some (jaY,[.t 2],23):=by kernel_rfl
theorem jwp (b:ByteArray):(b.toList==ByteArray.toList ⟨⟨[]⟩⟩)=decide (b.size=0):=by
 rw [ByteArray.toList_eq,show ByteArray.toList ⟨⟨[]⟩⟩=[] from ByteArray.toList_eq _]
 rw [show b.size=b.data.toList.length from by cases b;rfl]
 cases b.data.toList<;>simp
def jh4 (v:Int):UInt8:=UInt8.ofNat (v%256).toNat
theorem jv7 (v:Int):D.val (.int .u8 (IntKind.u8.wrap v))=kj (jh4 v):=by
 have h1:0≤v%256:=Int.emod_nonneg _ (by decide)
 have h2:v%256<256:=Int.emod_lt_of_pos _ (by decide)
 obtain ⟨n,hn⟩:=Int.eq_ofNat_of_zero_le h1
 have hw:IntKind.u8.wrap v=v%256:=by
  rw [show IntKind.u8.wrap v=v%2^8 from by rw [IntKind.wrap_u8];rfl];rfl
 rw [hw,jh4,hn,Int.toNat_natCast,kj];have h3:n<256:=by omega
 simp [Nat.mod_eq_of_lt h3]
def jcg (v:Int):List UInt8:=[jh4 (v/16777216),jh4 (v/65536),jh4 (v/256),jh4 v]
def jbv (v:Int):ByteArray:=if 0≤v∧v≤4294967295 then ⟨(jcg v).toArray⟩ else ⟨⟨[]⟩⟩
theorem jko (v:Int):(jbv v).size≤4:=by
 unfold jbv;split
 ·exact Nat.le_refl 4
 ·exact Nat.zero_le 4
theorem jmg (v:Int):jh4 (v%256)=jh4 v:=by
 unfold jh4;rw [Int.emod_emod_of_dvd _ (Int.dvd_refl 256)]
theorem jjZ (v:Int):kl Try.prog 74 [.c (.val (.int .i64 v))] (.c (.val (.string (jbv v)))):=by
 refine jr Try.func74 jgv (by simp) ?_
 unfold jeu;simp only [go_sem];refine jb (jw v 0 4294967295) (by simp only [go_sem]) fun η=>?_
 simp only [go_sem];cases h:decide (0≤v∧v≤4294967295)
 ·have h':=of_decide_eq_false h
  simp only [go_sem,h];simp [jbv,h']
 have h':=of_decide_eq_true h;have q1:IntKind.i64.wrap (v.tdiv 16777216)=v/16777216:=by rw [Int.tdiv_eq_ediv_of_nonneg h'.1];exact jg (by omega) (by omega)
 have q2:IntKind.i64.wrap (v.tdiv 65536)=v/65536:=by rw [Int.tdiv_eq_ediv_of_nonneg h'.1];exact jg (by omega) (by omega)
 have q3:IntKind.i64.wrap (v.tdiv 256)=v/256:=by rw [Int.tdiv_eq_ediv_of_nonneg h'.1];exact jg (by omega) (by omega)
 have r2:(v/65536).tmod 256=v/65536%256:=Int.tmod_eq_emod_of_nonneg (by omega)
 have r3:(v/256).tmod 256=v/256%256:=Int.tmod_eq_emod_of_nonneg (by omega)
 have r4:v.tmod 256=v%256:=Int.tmod_eq_emod_of_nonneg h'.1;simp only [go_sem,h,q1,q2,q3,r2,r3,r4];intro η;refine zz (bs:=jcg v) rfl rfl ?_ ?_
 ·simp only [jcg,List.map_cons,List.map_nil,jv7,jmg]
 ·simp only [go_sem]
  simp [jbv,h']
theorem jj3 (v:Int):kl Try.prog 78 [.c (.val (.int .i64 v))] (.c (.val (.string (jbv v)))):=by
 refine jr Try.func78 jgC (by simp) ?_
 unfold jeB;simp only [go_sem];refine jb (km v 0 4294967295) (by simp only [go_sem]) fun η=>?_
 simp only [go_sem];cases h:decide (0≤v∧v≤4294967295)
 ·have h':=of_decide_eq_false h
  simp only [go_sem,h];simp [jbv,h']
 have h':=of_decide_eq_true h;have s1:v.fdiv (2^min 24 64)=v/16777216:=by rw [show (2:Int)^(min 24 64)=16777216 from rfl,Int.fdiv_eq_ediv_of_nonneg _ (by decide)]
 have s2:v.fdiv (2^min 16 64)=v/65536:=by rw [show (2:Int)^(min 16 64)=65536 from rfl,Int.fdiv_eq_ediv_of_nonneg _ (by decide)]
 have s3:v.fdiv (2^min 8 64)=v/256:=by rw [show (2:Int)^(min 8 64)=256 from rfl,Int.fdiv_eq_ediv_of_nonneg _ (by decide)]
 simp only [go_sem,h,s1,s2,s3];intro η;refine zz (bs:=jcg v) rfl rfl ?_ ?_
 ·simp only [jcg,List.map_cons,List.map_nil,jv7,jmg]
 ·simp only [go_sem]
  simp [jbv,h']
def jO (b:ByteArray):ByteArray:=if 1≤b.size∧b.size≤400 then zp b.size++jbv (jdu b)++b else ⟨⟨[]⟩⟩
theorem zY (b:ByteArray):(jO b).size≤409:=by
 unfold jO;split
 ·have h1:=jko (jdu b)
  have h2:(zp b.size).size≤5:=jc5 _;rw [ByteArray.size_append,ByteArray.size_append];omega
 ·exact Nat.zero_le _
theorem jcs (b:ByteArray):kl Try.prog 38 [.c (.val (.string b))] (.c (.val (.string (jO b)))):=by
 refine jr Try.func38 jfu (by simp) ?_
 unfold jcW;simp only [go_sem,jwp];by_cases h0:b.size=0
 ·have hf:jO b=⟨⟨[]⟩⟩:=by unfold jO;rw [if_neg (by omega)]
  simp only [go_sem,jwp,h0,hf]
 by_cases h4:b.size≤400;rotate_left
 ·have h4':(400:Int)<b.size:=by omega
  have hf:jO b=⟨⟨[]⟩⟩:=by unfold jO;rw [if_neg (by omega)]
  simp only [go_sem,jwp,h0,h4',hf]
 have h4':¬(400:Int)<b.size:=by omega
 have hf:jO b=zp b.size++jbv (jdu b)++b:=by unfold jO;rw [if_pos (by omega)]
 have h5:(zp b.size).size≤5:=jc5 _;have h6:=jko (jdu b);have h7:(zp b.size).size+(jbv (jdu b)).size≤maxLen:=by unfold maxLen;omega
 have h8:(zp b.size).size+(jbv (jdu b)).size+b.size≤maxLen:=by unfold maxLen;omega
 simp only [go_sem,jwp,h0,h4'];refine jb (vr b.size) (by simp only [go_sem]) fun η=>?_
 simp only [go_sem];refine jb (jbm b (by omega)) (by simp only [go_sem]) fun η=>?_
 simp only [go_sem];refine jb (jjZ (jdu b)) (by simp only [go_sem]) fun η=>?_
 simp only [go_sem];simp only [go_sem,h7,h8,hf]
theorem zE (b:ByteArray) (hb:b.size<9223372036854775807):kl Try.prog 40 [.c (.val (.string b))] (.c (.val (.string (jO b)))):=by
 refine jr Try.func40 jfA (by simp) ?_
 unfold jc2;simp only [go_sem];refine jb (km b.size 1 400) (by simp only [go_sem]) fun η=>?_
 simp only [go_sem];cases h0:decide ((1:Int)≤b.size∧(b.size:Int)≤400)
 ·have h0':=of_decide_eq_false h0
  have hf:jO b=⟨⟨[]⟩⟩:=by unfold jO;rw [if_neg (by omega)]
  simp only [go_sem,h0,hf]
 have h0':=of_decide_eq_true h0;have hf:jO b=zp b.size++jbv (jdu b)++b:=by unfold jO;rw [if_pos (by omega)]
 have h5:(zp b.size).size≤5:=jc5 _;have h6:=jko (jdu b);have h7:(zp b.size).size+(jbv (jdu b)).size≤maxLen:=by unfold maxLen;omega
 have h8:(zp b.size).size+(jbv (jdu b)).size+b.size≤maxLen:=by unfold maxLen;omega
 simp only [go_sem,h0];refine jb (vt b.size) (by simp only [go_sem]) fun η=>?_
 simp only [go_sem];refine jb (jfS b (by omega)) (by simp only [go_sem]) fun η=>?_
 simp only [go_sem];refine jb (jj3 (jdu b)) (by simp only [go_sem]) fun η=>?_
 simp only [go_sem];simp only [go_sem,h7,h8,hf]
def jid (a:Option (List UInt8)) (b:ByteArray):Option (List UInt8):=match a with
 |none=>none
 |some l=>if (jO b).size=0∨60000<l.length+(jO b).size then none else some (l++(jO b).data.toList)
def outF:Option (List UInt8)→ByteArray
 |none=>⟨⟨[]⟩⟩
 |some l=>⟨l.toArray⟩
def jde (l:List ByteArray):ByteArray:=outF (l.foldl jid (some []))
theorem joZ (l:List ByteArray):l.foldl jid none=none:=by
 induction l with
 |nil=>rfl
 |cons x l ih=>exact ih
theorem jje {l:List ByteArray} {k:Nat} {x:ByteArray} {a:List UInt8} (hx:l[k]?=some x) (ha:(l.take k).foldl jid (some [])=some a) (h:(jO x).size=0∨60000<a.length+(jO x).size):jde l=⟨⟨[]⟩⟩:=by
 have hk:=(List.getElem?_eq_some_iff.1 hx).1;have e:l=l.take (k+1)++l.drop (k+1):=(List.take_append_drop _ _).symm;rw [jde,e,List.foldl_append,je2 _ _ hx,ha,jid,if_pos h,joZ];rfl
theorem jqR {l:List ByteArray} {k:Nat} {x:ByteArray} {a:List UInt8} (hx:l[k]?=some x) (ha:(l.take k).foldl jid (some [])=some a) (h:¬((jO x).size=0∨60000<a.length+(jO x).size)):(l.take (k+1)).foldl jid (some [])=some (a++(jO x).data.toList):=by
 rw [je2 _ _ hx,ha,jid,if_neg h]
abbrev zi (l:List UInt8):D:=.sl 1 5 (l.map kj)
theorem jtz (l m:List UInt8):D.sl 1 5 (l.map kj++m.map kj)=zi (l++m):=by simp [zi]
theorem qy (l:List UInt8):(zi l).len=l.length:=by simp [D.len,D.cells,D.size]
theorem jhr (l:List ByteArray) (hl:l.length≤4000000) (hs:∀x∈l,x.size<9223372036854775807):kl Try.prog 56 [.c (kh l)] (.c (.val (.string (jde l)))):=by
 refine jr Try.func56 jeh (by simp) ?_
 unfold jbR;simp only [go_sem];refine jq (fun i:Nat×List UInt8×jm=>St.of [(3,Hd 3 i.2.2),(7,Ro (kh l)),(8,Ni l.length),(9,Ni i.1)] [(3,.loose (zi i.2.1) i.2.2)]) (fun i=>i.1≤l.length∧i.2.1.length≤60000∧(l.take i.1).foldl jid (some [])=some i.2.1) (fun i=>l.length-i.1) (0,[],vT) (by (try dsimp only);first|omega|(simp;done)|(and_intros<;>first|omega|simp)) (jl [none] (by simp only [go_sem,List.map_nil]<;>and_intros<;>first|rfl|assumption|trivial)) ?_
 rintro ⟨k,a,η⟩ ⟨hk,ha6,ha⟩;dsimp only at hk ha6 ha;by_cases hlt:k<l.length
 ·have hlt':(k:Int)<l.length:=by omega
  obtain ⟨x,hx⟩:=je hlt;have hw:IntKind.i64.wrap ((k:Int)+1)=((k+1:Nat):Int):=jg (by omega) (by omega)
  have hf4:=zY x;have hw2:IntKind.i64.wrap ((a.length:Int)+(jO x).size)=((a.length+(jO x).size:Nat):Int):=jg (by omega) (by omega)
  simp only [go_sem,hlt,hlt',jlZ hx];refine jb (zE x (hs x (List.mem_of_getElem? hx))) (by simp only [go_sem]) fun η=>?_
  simp only [go_sem];by_cases h0:(jO x).size=0
  ·rw [jje hx ha (.inl h0)]
   simp only [go_sem,jwp,hw2,qy,List.length_map,h0]
  by_cases h6:60000<a.length+(jO x).size
  ·have h6':(60000:Int)<((a.length+(jO x).size:Nat):Int):=by omega
   rw [jje hx ha (.inr h6)];simp only [go_sem,jwp,hw2,qy,List.length_map,h0,h6']
  have h6':¬(60000:Int)<((a.length+(jO x).size:Nat):Int):=by omega
  have hs:a.length+(jO x).size≤140737488355328:=by omega
  simp only [go_sem,jwp,hw2,qy,List.length_map,h0,h6',jjI];refine ⟨_,rfl,?_⟩;simp only [go_sem,List.length_map,hs];intro η8;simp only [go_sem,hw];exact ⟨(k+1,a++(jO x).data.toList,η8),⟨hlt,by rw [List.length_append];show a.length+(jO x).size≤60000;omega,jqR hx ha (by omega)⟩,(jl [some 2700] (by simp only [go_sem,jtz,strCells]<;>and_intros<;>first|rfl|assumption|trivial)),by (try dsimp only);omega⟩
 have hlt':¬(k:Int)<l.length:=by omega
 rw [List.take_of_length_le (by omega)] at ha
 simp only [go_sem,hlt'];refine zz (ty:=5) (cs:=a.map kj) (η:=η) (bs:=a) (by simp only [go_sem]) rfl rfl ?_
 simp only [go_sem];rw [jde,ha];rfl
def ko (l:List Nt):ByteArray:=if 400<l.length then ⟨⟨[]⟩⟩ else jde (l.map jV)
theorem jvP {l:List Nt} (ht:zK l≤2000000) {n:Nt} (h:n∈l):zC n≤2000000:=by
 obtain ⟨k,hk,rfl⟩:=List.getElem_of_mem h;have h1:=List.getElem?_eq_getElem hk;have h2:=vZ (tot:=zC) h1;have h3:=jaj zC l (k+1);simp only [zK] at ht;omega
theorem jdN (n:Nt):(jV n).size≤400:=by
 unfold jV;split
 ·unfold jgR
  split
  ·exact Nat.zero_le _
  ·omega
 ·exact Nat.zero_le _
theorem jge (l:List Nt) (ht:zK l≤2000000):kl Try.prog 24 [.c (jH l)] (.c (.val (.string (ko l)))):=by
 refine jr Try.func24 jdr (by simp) ?_
 unfold jaY;simp only [go_sem];by_cases h4:400<l.length
 ·have h4':(400:Int)<l.length:=by omega
  have hn:ko l=⟨⟨[]⟩⟩:=by rw [ko,if_pos h4]
  simp only [go_sem,h4',hn]
 have h4':¬(400:Int)<l.length:=by omega
 have hn:ko l=jde (l.map jV):=by rw [ko,if_neg h4]
 simp only [go_sem,h4'];refine jq (fun i:Nat×jm=>St.of [(3,Hd 3 i.2),(9,Ro (jH l)),(10,Ni l.length),(11,Ni i.1)] [(3,.loose (kh ((l.take i.1).map jV)) i.2)]) (fun i=>i.1≤l.length) (fun i=>l.length-i.1) (0,vT) (by (try dsimp only);first|omega|(simp;done)|(and_intros<;>first|omega|simp)) (jl [none] (by simp only [go_sem,List.take_zero,List.map_nil]<;>and_intros<;>first|rfl|assumption|trivial)) ?_
 rintro ⟨k,η⟩ hk;dsimp only at hk;by_cases hlt:k<l.length
 ·have hlt':(k:Int)<l.length:=by omega
  obtain ⟨x,hx⟩:=je hlt;have hw:IntKind.i64.wrap ((k:Int)+1)=((k+1:Nat):Int):=jg (by omega) (by omega)
  have hmt:(l.take (k+1)).map jV=(l.take k).map jV++[jV x]:=by rw [List.take_add_one,hx];simp
  have hml:((l.take k).map jV).length=k:=by rw [List.length_map,List.length_take];omega
  generalize (l.take k).map jV=M at*;have hm1:k+1≤maxLen:=by unfold maxLen;omega
  have hm2:(k+1)*16≤140737488355328:=by omega
  simp only [go_sem,hlt,hlt',jdg hx,jE,jf,ja];intro b5;refine jb (zf x (jvP ht (List.mem_of_getElem? hx))) (by simp only [go_sem,jE,jf,ja]) fun η=>?_
  simp only [go_sem,jE,jf,ja];simp only [go_sem,hml,hm1,hm2,zm];intro η5 η6;simp only [go_sem,hw];exact ⟨(k+1,η6),by (try dsimp only);first|omega|assumption|(and_intros<;>first|omega|assumption),(jl [some 1900] (by simp only [go_sem,hmt]<;>and_intros<;>first|rfl|assumption|trivial)),by (try dsimp only);omega⟩
 have hlt':¬(k:Int)<l.length:=by omega
 rw [List.take_of_length_le (by omega)]
 simp only [go_sem,hlt'];refine jb (jhr (l.map jV) (by rw [List.length_map];omega) (fun x hx=>by obtain ⟨n,_,rfl⟩:=List.mem_map.1 hx;have:=jdN n;omega)) (by simp only [go_sem]) fun η=>?_
 simp only [go_sem];simp only [go_sem,hn]
def edI (e:Ed):List Int:=[e.src,e.dst]
def plI (p:Pl):List Int:=[p.prio,p.most,p.wait,p.tasks,(p.edges.length:Int)]++p.edges.flatMap edI
noncomputable def jcd (r:Rn):Rn:=if (qu r&&r.state==1)=true then ⟨r.id,r.plan,4,vi jx r.tasks r.tasks.length⟩ else r
theorem jod {r:Rn} (h:(qu r&&r.state==1)=false):jcd r=r:=by simp [jcd,h]
theorem jr8 {r:Rn} (h:(qu r&&r.state==1)=true):jcd r=⟨r.id,r.plan,4,vi jx r.tasks r.tasks.length⟩:=by simp [jcd,h]
def jiV (y:Yd) (k:Nat) (r:Rn):Yd:=⟨y.now,y.seq,y.shelf,y.runs.set k r⟩
noncomputable def vo (y:Yd) (id:Int):Int:=if jJ y=false then 8 else if runAt y id<0 then 10 else if ((y.runs[(runAt y id).toNat]?).getD default).state=1 then 0 else 12
noncomputable def vb (y:Yd) (id:Int):Yd:=if vo y id=0 then jiV y (runAt y id).toNat (jcd ((y.runs[(runAt y id).toNat]?).getD default)) else y
def jdw:List UInt8→Nat
 |[]=>0
 |b::l=>b.toNat%128+128*jdw l
def jcf:List UInt8→Bool
 |[]=>false
 |[b]=>decide (b.toNat<128)
 |b::c::l=>decide (128≤b.toNat)&&jcf (c::l)
theorem jjw {v:Nat} (h:v<128):kB v=[UInt8.ofNat v]:=by unfold kB;rw [if_pos h]
theorem jmt {v:Nat} (h:¬v<128):kB v=UInt8.ofNat (128+v%128)::kB (v/128):=by rw [kB,if_neg h]
theorem jah (v:Nat):kB v≠ []:=by
 by_cases h:v<128
 ·rw [jjw h];simp
 ·rw [jmt h];simp
theorem jkO (v:Nat):jcf (kB v)=true∧jdw (kB v)=v:=by
 induction v using Nat.strongRecOn with
 |_ v ih=>
  by_cases h:v<128
  ·rw [jjw h]
   have:(UInt8.ofNat v).toNat=v:=by simp [Nat.mod_eq_of_lt (show v<256 by omega)]
   simp only [jcf,jdw,this,decide_eq_true_eq];omega
  ·rw [jmt h]
   obtain ⟨h1,h2⟩:=ih (v/128) (by omega)
   have hb:(UInt8.ofNat (128+v%128)).toNat=128+v%128:=by simp [Nat.mod_eq_of_lt (show 128+v%128<256 by omega)]
   refine ⟨?_,by simp only [jdw,hb,h2];omega⟩
   cases hl:kB (v/128) with
   |nil=>exact absurd hl (jah _)
   |cons c l=>rw [hl] at h1;simp only [jcf,hb,Bool.and_eq_true,decide_eq_true_eq];exact ⟨by omega,h1⟩
theorem jkk:∀l:List UInt8,jcf l=true→(kB (jdw l)).length≤l.length∧((kB (jdw l)).length=l.length→kB (jdw l)=l)
 |[],h=>by simp [jcf] at h
 |[b],h=>by
  have hb:b.toNat<128:=by simpa [jcf] using h
  have e:jdw [b]=b.toNat:=by simp only [jdw];omega
  rw [e,jjw hb];exact ⟨by simp,fun _=>by simp⟩
 |b::c::l,h=>by
  simp only [jcf,Bool.and_eq_true,decide_eq_true_eq] at h;obtain ⟨h1,h2⟩:=jkk (c::l) h.2;have hb:=h.1;have hb2:=b.toNat_lt;have e:jdw (b::c::l)=b.toNat%128+128*jdw (c::l):=rfl;by_cases hz:jdw (b::c::l)<128
  ·rw [jjw hz];exact ⟨by simp,fun hl=>by simp at hl⟩
  ·have e1:jdw (b::c::l)/128=jdw (c::l):=by omega
   have e2:128+jdw (b::c::l)%128=b.toNat:=by omega
   rw [jmt hz,e1,e2];refine ⟨by simp only [List.length_cons] at h1⊢;omega,fun hl=>?_⟩
   rw [h2 (by simpa using hl)]
   simp
def vGo:Nat→List UInt8→Nat→Nat→Option (Nat×Nat)
 |0,_,_,_=>none
 |_+1,[],_,_=>none
 |f+1,b::l,n,i=>if b.toNat<128 then (if n+b.toNat%128*128^i≤1000000000∧(kB (n+b.toNat%128*128^i)).length=i+1 then some (n+b.toNat%128*128^i,i+1) else none)
  else vGo f l (n+b.toNat%128*128^i) (i+1)
theorem zj (l:List UInt8) (b:UInt8):jdw (l++[b])=jdw l+b.toNat%128*128^l.length:=by
 induction l with
 |nil=>simp [jdw]
 |cons c l ih=>
  simp only [List.cons_append,jdw,ih,List.length_cons,Nat.pow_succ];generalize b.toNat%128=q;generalize 128^l.length=z;rw [Nat.mul_add,←Nat.add_assoc,Nat.mul_left_comm 128 q z,Nat.mul_comm 128 z]
theorem jhB:∀(l:List UInt8) (b:UInt8),(∀c∈l,128≤c.toNat)→b.toNat<128→jcf (l++[b])=true
 |[],b,_,hb=>by simpa [jcf] using hb
 |[c],b,h,hb=>by have:=h c (by simp);simp [jcf,hb,this]
 |c::d::l,b,h,hb=>by
  have:=jhB (d::l) b (fun x hx=>h x (by simp [hx])) hb
  have h1:=h c (by simp)
  simp only [List.cons_append,jcf,Bool.and_eq_true,decide_eq_true_eq] at this⊢;exact ⟨h1,this⟩
theorem jvB:∀(f:Nat) (l p:List UInt8) (v k:Nat),(∀c∈p,128≤c.toNat)→vGo f l (jdw p) p.length=some (v,k)→v≤1000000000∧∃r,p++l=kB v++r∧k=(kB v).length
 |0,_,_,_,_,_,h=>by simp [vGo] at h
 |_+1,[],_,_,_,_,h=>by simp [vGo] at h
 |f+1,b::l,p,v,k,hp,h=>by
  simp only [vGo] at h;split at h
  ·rename_i hb
   split at h
   ·rename_i hc
    simp only [Option.some.injEq,Prod.mk.injEq] at h;obtain ⟨rfl,rfl⟩:=h;rw [←zj] at hc⊢;have hg:=jhB p b hp hb;have:=(jkk _ hg).2 (by rw [hc.2];simp)
    exact ⟨hc.1,l,by rw [this];simp,hc.2.symm⟩
   ·simp at h
  ·rename_i hb
   rw [←zj] at h;have e:p.length+1=(p++[b]).length:=by simp
   rw [e] at h
   obtain ⟨h1,r,h2,h3⟩:=jvB f l (p++[b]) v k (fun c hc=>by
    rcases List.mem_append.1 hc with hc|hc
    ·exact hp c hc
    ·simp at hc;subst hc;omega) h
   exact ⟨h1,r,by rw [←h2];simp,h3⟩
theorem jtO {v:Nat} (h:v≤1000000000):(kB v).length≤5:=by
 have:=jc5 (v:Int)
 rwa [ja7 h] at this
theorem jeY:∀l:List UInt8,jcf l=true→∃p b,l=p++[b]∧(∀c∈p,128≤c.toNat)∧b.toNat<128
 |[],h=>by simp [jcf] at h
 |[b],h=>⟨[],b,rfl,by simp,by simpa [jcf] using h⟩
 |b::c::l,h=>by
  simp only [jcf,Bool.and_eq_true,decide_eq_true_eq] at h;obtain ⟨p,d,h1,h2,h3⟩:=jeY (c::l) h.2
  exact ⟨b::p,d,by rw [h1];rfl,fun x hx=>by
   rcases List.mem_cons.1 hx with rfl|hx
   ·exact h.1
   ·exact h2 x hx,h3⟩
theorem jmu:∀(f:Nat) (q p l:List UInt8) (b:UInt8),(∀c∈q,128≤c.toNat)→b.toNat<128→q.length+1≤f→
 vGo f (q++b::l) (jdw p) p.length=if jdw (p++q++[b])≤1000000000∧(kB (jdw (p++q++[b]))).length=p.length+q.length+1 then some (jdw (p++q++[b]),p.length+q.length+1) else none
 |0,_,_,_,_,_,_,h=>by omega
 |f+1,[],p,l,b,_,hb,_=>by
  simp only [List.nil_append,vGo,if_pos hb,List.append_nil,←zj,List.length_nil,Nat.add_zero]
 |f+1,c::q,p,l,b,hq,hb,hf=>by
  have hc:=hq c (by simp)
  have:=jmu f q (p++[c]) l b (fun x hx=>hq x (by simp [hx])) hb (by simp at hf;omega)
  simp only [List.cons_append,vGo,if_neg (show¬c.toNat<128 by omega),←zj]
  rw [show p.length+1=(p++[c]).length by simp,this]
  have e1:p++[c]++q++[b]=p++c::q++[b]:=by simp
  have e2:(p++[c]).length+q.length+1=p.length+(c::q).length+1:=by simp;omega
  rw [e1,e2]
def jai (l:List UInt8):Option (Nat×Nat):=vGo 5 l 0 0
theorem zI {l:List UInt8} {v k:Nat} (h:jai l=some (v,k)):v≤1000000000∧∃r,l=kB v++r∧k=(kB v).length:=by
 obtain ⟨h1,r,h2,h3⟩:=jvB 5 l [] v k (by simp) h
 exact ⟨h1,r,h2,h3⟩
theorem jdA {v:Nat} (h:v≤1000000000) (r:List UInt8):jai (kB v++r)=some (v,(kB v).length):=by
 obtain ⟨h1,h2⟩:=jkO v;obtain ⟨p,b,h3,h4,h5⟩:=jeY _ h1;have h6:=jtO h;have e:kB v++r=p++b::r:=by rw [h3];simp
 have h7:(kB v).length=p.length+1:=by rw [h3];simp
 have:=jmu 5 p [] r b h4 h5 (by omega)
 rw [jai,e];simp only [List.nil_append,List.length_nil,Nat.zero_add] at this;rw [←h3,h2] at this;rw [show vGo 5 (p++b::r) 0 0=vGo 5 (p++b::r) (jdw []) 0 from rfl,this,if_pos ⟨h,by rw [h7]⟩,h7]
def vAt (s:ByteArray) (k:Int):Int×Int:=if k<0 then (0,-1) else match jai (s.data.toList.drop k.toNat) with
 |some (v,m)=>((v:Int),k+(m:Int))
 |none=>(0,-1)
theorem jkP {l:List UInt8} {v k:Nat} (h:jai l=some (v,k)):0<k∧k≤l.length:=by
 obtain ⟨_,r,h1,h2⟩:=zI h;have:=List.length_pos_iff.2 (jah v);rw [h1,List.length_append];omega
def rvF:Nat→List UInt8→Option (List Int)
 |_,[]=>some []
 |0,_::_=>none
 |f+1,b::l=>match jai (b::l) with
  |some (v,k)=>(rvF f ((b::l).drop k)).map fun r=>(v:Int)::r
  |none=>none
def jar (n:Int):Prop:=0≤n∧n≤1000000000
theorem jdz {n:Int} (h:jar n):∃v:Nat,n=v∧v≤1000000000∧(zp n).data.toList=kB v:=by
 obtain ⟨v,rfl⟩:=Int.eq_ofNat_of_zero_le h.1;have h2:=h.2;exact ⟨v,rfl,by omega,by rw [ja7 (by omega)]⟩
theorem vg (n:Int) (l:List Int):qc (n::l)=(zp n).data.toList++qc l:=by simp [qc]
theorem jnJ:∀(L:List Int) (f:Nat),(∀n∈L,jar n)→(qc L).length≤f→rvF f (qc L)=some L
 |[],f,_,_=>by cases f<;>simp [qc,rvF]
 |n::L,f,h,hf=>by
  obtain ⟨v,rfl,hv,e⟩:=jdz (h n (by simp))
  have hne:=jah v;rw [vg,e] at hf⊢;rw [List.length_append] at hf;have hp:=List.length_pos_iff.2 hne;obtain ⟨f,rfl⟩:∃g,f=g+1:=⟨f-1,by omega⟩
  cases hl:kB v++qc L with
  |nil=>simp [hne] at hl
  |cons b l=>
   have hh:=jdA hv (qc L);rw [hl] at hh;simp only [rvF,hh];have hd:(b::l).drop (kB v).length=qc L:=by rw [←hl];simp
   rw [hd,jnJ L f (fun m hm=>h m (by simp [hm])) (by omega)]
   rfl
theorem jnK:∀(f:Nat) (l:List UInt8) (L:List Int),rvF f l=some L→l=qc L∧∀n∈L,jar n
 |0,[],L,h=>by simp [rvF] at h;subst h;simp [qc]
 |_+1,[],L,h=>by simp [rvF] at h;subst h;simp [qc]
 |0,_::_,L,h=>by simp [rvF] at h
 |f+1,b::l,L,h=>by
  simp only [rvF] at h;cases hv:jai (b::l) with
  |none=>rw [hv] at h;simp at h
  |some p=>
   obtain ⟨v,k⟩:=p;rw [hv] at h;simp only [Option.map_eq_some_iff] at h;obtain ⟨r,h1,rfl⟩:=h;obtain ⟨h2,h3⟩:=jnK f _ _ h1;obtain ⟨h4,q,h5,rfl⟩:=zI hv;refine ⟨?_,fun n hn=>?_⟩
   ·rw [vg,ja7 h4,←h2,h5];simp
   ·rcases List.mem_cons.1 hn with rfl|hn
    ·exact ⟨by omega,by omega⟩
    ·exact h3 n hn
section
variable {σ:Type}
def RdSeq (nx:σ→Int×σ) (bd:σ→Bool):σ→List Int→σ→Prop
 |s,[],s'=>s'=s
 |s,x::l,s'=>bd s=false∧(nx s).1=x∧RdSeq nx bd (nx s).2 l s'
variable {nx:σ→Int×σ} {bd:σ→Bool} {sb:σ→σ}
theorem RdSeq.split:∀{l m:List Int} {s s'':σ},RdSeq nx bd s (l++m) s''→∃s',RdSeq nx bd s l s'∧RdSeq nx bd s' m s''
 |[],_,s,_,h=>⟨s,rfl,h⟩
 |_::_,_,_,_,⟨h1,h2,h3⟩=>by
  obtain ⟨s',h4,h5⟩:=RdSeq.split h3;exact ⟨s',⟨h1,h2,h4⟩,h5⟩
def jda {α:Type} (bd:σ→Bool) (rd:σ→α×σ):Nat→List α×σ→List α×σ
 |0,s=>s
 |n+1,s=>if bd s.2=true then s else jda bd rd n (s.1++[(rd s.2).1],(rd s.2).2)
theorem jld {α:Type} {rd:σ→α×σ} {s:List α×σ} (h:bd s.2=true):∀n,jda bd rd n s=s
 |0=>rfl
 |n+1=>by rw [jda,if_pos h]
theorem jlb {α:Type} {rd:σ→α×σ} {pr:α→List Int} (hne:∀x,pr x≠ []) (ok:α→Prop) (h:∀x s s',ok x→RdSeq nx bd s (pr x) s'→rd s=(x,s')):
 ∀(l:List α) (acc:List α) (s s':σ),(∀x∈l,ok x)→RdSeq nx bd s (l.flatMap pr) s'→jda bd rd l.length (acc,s)=(acc++l,s')
 |[],acc,s,s',_,h'=>by simp only [List.length_nil,jda,List.append_nil];rw [show s'=s from h']
 |x::l,acc,s,s',ho,h'=>by
  rw [List.flatMap_cons] at h';obtain ⟨s1,h1,h2⟩:=h'.split;have e:=h x s s1 (ho x (by simp)) h1
  have hb:bd s=false:=by
   cases hx:pr x with
   |nil=>exact absurd hx (hne x)
   |cons a m=>rw [hx] at h1;exact h1.1
  rw [List.length_cons,jda,if_neg (by rw [hb];decide),e,jlb hne ok h l _ s1 s' (fun z hz=>ho z (by simp [hz])) h2]
  simp
def jrA (nx:σ→Int×σ) (s:σ):Ed×σ:=(⟨(nx s).1,(nx (nx s).2).1⟩,(nx (nx s).2).2)
def js7 (cap:Option Int) (sb:σ→σ) (m:Int) (s:σ):σ:=match cap with
 |some c=>if m>c then sb s else s
 |none=>s
def rdPl (cap:Option Int) (nx:σ→Int×σ) (bd:σ→Bool) (sb:σ→σ) (s:σ):Pl×σ:=
 let a:=nx s;let b:=nx a.2;let c:=nx b.2;let d:=nx c.2;let m:=nx d.2
 let e:=jda bd (jrA nx) m.1.toNat ([],js7 cap sb m.1 m.2)
 (⟨a.1,b.1,c.1,d.1,e.1⟩,e.2)
def rdNt (cap:Option Int) (nx:σ→Int×σ) (bd:σ→Bool) (sb:σ→σ) (s:σ):Nt×σ:=
 let q:=nx s;let k:=nx q.2
 if k.1=1 then
  let r:=nx k.2;let p:=rdPl cap nx bd sb r.2
  (⟨q.1,⟨k.1,r.1,p.1,0,0,0,0⟩⟩,p.2)
 else if k.1=2 then
  let w:=nx k.2;let d:=nx w.2
  (⟨q.1,⟨k.1,0,⟨0,0,0,0,[]⟩,0,0,w.1,d.1⟩⟩,d.2)
 else if k.1=3∨k.1=4 then
  let r:=nx k.2;let t:=nx r.2;let y:=nx t.2
  (⟨q.1,⟨k.1,r.1,⟨0,0,0,0,[]⟩,t.1,y.1,0,0⟩⟩,y.2)
 else if k.1=6∨k.1=7 then
  let r:=nx k.2
  (⟨q.1,⟨k.1,r.1,⟨0,0,0,0,[]⟩,0,0,0,0⟩⟩,r.2)
 else (⟨q.1,⟨k.1,0,⟨0,0,0,0,[]⟩,0,0,0,0⟩⟩,k.2)
theorem jxO (x:Ed) (s s':σ) (h:RdSeq nx bd s (edI x) s'):jrA nx s=(x,s'):=by
 obtain ⟨_,h1,_,h2,h3⟩:=h;rw [show s'=_ from h3,jrA,h1,h2]
theorem jx4 {cap:Option Int} {m:Int} {s:σ} (h:∀c,cap=some c→m≤c):js7 cap sb m s=s:=by
 unfold js7;split
 ·rename_i c;rw [if_neg (by have:=h c rfl;omega)]
 ·rfl
theorem jw3 {cap:Option Int} {p:Pl} {s s':σ} (hc:∀c,cap=some c→(p.edges.length:Int)≤c) (h:RdSeq nx bd s (plI p) s'):rdPl cap nx bd sb s=(p,s'):=by
 obtain ⟨s1,h1,h2⟩:=RdSeq.split (l:=[p.prio,p.most,p.wait,p.tasks,(p.edges.length:Int)]) h;obtain ⟨_,e1,_,e2,_,e3,_,e4,_,e5,e6⟩:=h1;have hr:=jlb (rd:=jrA nx) (pr:=edI) (by intro x;simp [edI]) (fun _=>True) (fun x s s' _ h=>jxO x s s' h) p.edges [] s1 s' (by simp) h2
 rw [show s1=_ from e6] at hr
 simp only [rdPl,e1,e2,e3,e4,e5,Int.toNat_natCast,jx4 hc,hr,List.nil_append]
end
section
variable {σ:Type} {nx:σ→Int×σ} {bd:σ→Bool} {sb:σ→σ}
theorem jr0 {cap:Option Int} {n:Nt} {s s':σ} (hc:∀c,cap=some c→(n.deed.plan.edges.length:Int)≤c) (hd:jF n.deed=true) (h:RdSeq nx bd s (jat n) s'):rdNt cap nx bd sb s=(n,s'):=by
 obtain ⟨q,k,r,p,t,y,w,d⟩:=n;obtain ⟨_,e1,_,e2,h3⟩:=h;dsimp only at e1 e2 hc hd;simp only [rdNt,e1,e2]
 have hno:∀p:Pl,qd p=true→p=⟨0,0,0,0,[]⟩:=fun p hp=>by
  obtain ⟨a,b,c,d,e⟩:=p;simp only [qd,Bool.and_eq_true,beq_iff_eq] at hp;have:e=[]:=List.eq_nil_of_length_eq_zero (by omega)
  simp [hp,this]
 by_cases k1:k=1
 ·subst k1
  simp only [jF,if_true,Bool.and_eq_true,beq_iff_eq] at hd;have hL:kw ⟨1,r,p,t,y,w,d⟩=r::plI p:=rfl;rw [hL] at h3;obtain ⟨_,e3,h4⟩:=h3;simp only [if_true,e3,jw3 hc h4];simp [hd]
 by_cases k2:k=2
 ·subst k2
  simp only [jF,Bool.and_eq_true,beq_iff_eq] at hd;simp at hd;have hL:kw ⟨2,r,p,t,y,w,d⟩=[w,d]:=rfl;rw [hL] at h3;obtain ⟨_,e3,_,e4,h4⟩:=h3;have hp:=hno p hd.2;simp only [e3,e4,show s'=_ from h4]
  simp [hd,hp]
 by_cases k3:k=3∨k=4
 ·have hd':qR r=true∧qR t=true∧qR y=true∧w=0∧d=0∧qd p=true:=by
   rw [jF,if_neg k1,if_neg k2,if_pos k3] at hd;simpa [and_assoc] using hd
  have hL:kw ⟨k,r,p,t,y,w,d⟩=[r,t,y]:=by rw [kw,if_neg k1,if_neg k2,if_pos k3]
  rw [hL] at h3;obtain ⟨_,e3,_,e4,_,e5,h4⟩:=h3;have hp:=hno p hd'.2.2.2.2.2;simp only [if_neg k1,if_neg k2,if_pos k3,e3,e4,e5,show s'=_ from h4]
  simp [hd',hp]
 by_cases k4:k=6∨k=7
 ·have hk58:¬(k=5∨k=8):=by omega
  have hL:kw ⟨k,r,p,t,y,w,d⟩=[r]:=by rw [kw,if_neg k1,if_neg k2,if_neg k3,if_pos k4]
  rw [hL] at h3;obtain ⟨_,e3,h4⟩:=h3;rw [jF] at hd;simp only [k1,k2,k3,k4,hk58,if_false,if_true,Bool.and_eq_true,beq_iff_eq] at hd;have hp:=hno p (by first|exact hd.2|(simp at hd;exact hd.2))
  simp only [if_neg k1,if_neg k2,if_neg k3,if_pos k4,e3,show s'=_ from h4]
  simp_all
 ·have hL:kw ⟨k,r,p,t,y,w,d⟩=[]:=by rw [kw,if_neg k1,if_neg k2,if_neg k3,if_neg k4]
  rw [hL] at h3;rw [jF] at hd;simp only [k1,k2,k3,k4,if_false] at hd;split at hd
  ·simp only [Bool.and_eq_true,beq_iff_eq] at hd
   have hp:=hno p hd.2;simp only [if_neg k1,if_neg k2,if_neg k3,if_neg k4,show s'=_ from h3]
   simp [hd,hp]
  ·simp at hd
end
def vd (L:List Int) (s:Nat×Bool):Int×(Nat×Bool):=match L[s.1]? with
 |some v=>(v,(s.1+1,s.2))
 |none=>(0,(s.1,true))
theorem jn3 {L:List Int}:∀(xs:List Int) {rest:List Int} {lo:Nat},L.drop lo=xs++rest→RdSeq (vd L) (·.2) (lo,false) xs (lo+xs.length,false)
 |[],_,_,_=>rfl
 |x::xs,rest,lo,h=>by
  have h0:L[lo]?=some x:=by
   have:=congrArg (·[0]?) h
   simpa using this
  have h1:L.drop (lo+1)=xs++rest:=by
   have:=congrArg List.tail h;simpa using this
  have e:vd L (lo,false)=(x,(lo+1,false)):=by simp only [vd,h0]
  refine ⟨rfl,by rw [e],?_⟩
  rw [e];have:=jn3 xs h1;rw [List.length_cons,show lo+(xs.length+1)=lo+1+xs.length by omega]
  exact this
def qP (t:ByteArray) (s:Int×Bool):Int×(Int×Bool):=if s.2=true then (0,s) else if (vAt t s.1).2<0 then (0,(s.1,true)) else ((vAt t s.1).1,((vAt t s.1).2,false))
theorem jn2 {t:ByteArray}:∀(xs:List Int) {rest:List UInt8} {k:Nat},(∀n∈xs,jar n)→t.data.toList.drop k=qc xs++rest→RdSeq (qP t) (·.2) ((k:Int),false) xs (((k+(qc xs).length:Nat):Int),false)
 |[],_,_,_,_=>by simp [RdSeq,qc]
 |x::xs,rest,k,hx,h=>by
  obtain ⟨v,rfl,hv,e⟩:=jdz (hx x (by simp))
  rw [vg,e,List.append_assoc] at h;have hh:jai (t.data.toList.drop k)=some (v,(kB v).length):=by rw [h];exact jdA hv _
  have hA:vAt t (k:Int)=((v:Int),((k+(kB v).length:Nat):Int)):=by
   rw [vAt,if_neg (by omega),Int.toNat_natCast,hh];simp
  have e1:qP t ((k:Int),false)=((v:Int),(((k+(kB v).length:Nat):Int),false)):=by
   simp only [qP,hA,Bool.false_eq_true,if_false];rw [if_neg (by omega)]
  refine ⟨rfl,by rw [e1],?_⟩
  rw [e1]
  have h1:t.data.toList.drop (k+(kB v).length)=qc xs++rest:=by
   rw [←List.drop_drop,h];simp
  have:=jn2 xs (fun n hn=>hx n (by simp [hn])) h1
  rw [vg,e,List.length_append,←Nat.add_assoc];exact this
theorem jxb {d:Dd} (h:jF d=true):jar d.kind∧∀m∈kw d,jar m:=by
 obtain ⟨k,r,p,t,y,w,d⟩:=d;have hn:∀a,qR a=true→jar a:=fun a ha=>by simpa [qR,jar] using ha
 unfold jF at h;unfold kw;dsimp only at h⊢;by_cases k1:k=1
 ·subst k1
  simp only [if_true,Bool.and_eq_true,beq_iff_eq] at h;obtain ⟨⟨⟨⟨⟨h1,-⟩,-⟩,-⟩,-⟩,h2⟩:=h;simp only [jcc,Bool.and_eq_true,decide_eq_true_eq,List.all_eq_true] at h2;obtain ⟨⟨⟨⟨⟨q1,q2⟩,q3⟩,q4⟩,q5⟩,q6⟩:=h2;refine ⟨by simp [jar],fun m hm=>?_⟩
  simp only [if_true] at hm;rcases List.mem_append.1 hm with hm|hm
  ·simp only [List.mem_cons,List.not_mem_nil,or_false] at hm
   rcases hm with rfl|rfl|rfl|rfl|rfl|rfl
   ·exact hn _ h1
   ·exact hn _ q1
   ·exact hn _ q2
   ·exact hn _ q3
   ·exact hn _ q4
   ·exact ⟨by omega,by omega⟩
  ·obtain ⟨e,he,hm⟩:=List.mem_flatMap.1 hm
   have:=q6 e he;simp only [edB,Bool.and_eq_true] at this;simp only [List.mem_cons,List.not_mem_nil,or_false] at hm;rcases hm with rfl|rfl
   ·exact hn _ this.1
   ·exact hn _ this.2
 by_cases k2:k=2
 ·subst k2
  simp at h⊢;exact ⟨by simp [jar],hn _ h.1.1.2,hn _ h.1.2⟩
 by_cases k3:k=3∨k=4
 ·simp only [k1,k2,k3,if_false,if_true,Bool.and_eq_true,beq_iff_eq] at h⊢
  simp only [List.mem_cons,List.not_mem_nil,or_false];refine ⟨by rcases k3 with rfl|rfl<;>simp [jar],fun m hm=>?_⟩
  rcases hm with rfl|rfl|rfl
  ·exact hn _ h.1.1.1.1.1
  ·exact hn _ h.1.1.1.1.2
  ·exact hn _ h.1.1.1.2
 by_cases k4:k=6∨k=7
 ·have k5:¬(k=5∨k=8):=by omega
  simp only [k1,k2,k3,k4,k5,if_false,if_true,Bool.and_eq_true,beq_iff_eq] at h⊢;simp only [List.mem_cons,List.not_mem_nil,or_false];refine ⟨by rcases k4 with rfl|rfl<;>simp [jar],fun m hm=>?_⟩
  subst hm;exact hn _ h.1.1.1.1.1
 ·simp only [k1,k2,k3,k4,if_false] at h⊢
  refine ⟨?_,by simp⟩
  split at h
  ·rename_i k5
   rcases k5 with rfl|rfl<;>simp [jar]
  ·simp at h
theorem jj8 {n:Nt} {t:ByteArray} (h:jV n=t) (hz:t.size≠0):jF n.deed=true∧(∀m∈jat n,jar m)∧t=kT (jat n)∧t.size≤400:=by
 unfold jV at h;split at h
 ·rename_i hc
  simp only [Bool.and_eq_true,decide_eq_true_eq] at hc;obtain ⟨h1,h2⟩:=jxb hc.1;unfold jgR at h;split at h
  ·subst h;exact absurd rfl hz
  ·subst h
   refine ⟨hc.1,fun m hm=>?_,rfl,by omega⟩
   rcases List.mem_cons.1 hm with rfl|hm
   ·exact ⟨by omega,by omega⟩
   rcases List.mem_cons.1 hm with rfl|hm
   ·exact h1
   ·exact h2 m hm
 ·subst h;exact absurd rfl hz
abbrev ntZ:Nt:=⟨0,⟨0,0,⟨0,0,0,0,[]⟩,0,0,0,0⟩⟩
open Classical in
noncomputable def qp (t:ByteArray):Nt×Bool:=if h:∃n,jV n=t∧t.size≠0 then (h.choose,true) else (ntZ,false)
def jih (t:ByteArray):Nt×Bool:=match rvF t.size t.data.toList with
 |none=>(ntZ,false)
 |some L=>if (rdNt none (vd L) (·.2) (fun s=>(s.1,true)) (0,false)).2.2=true∨(jV (rdNt none (vd L) (·.2) (fun s=>(s.1,true)) (0,false)).1).size=0∨jV (rdNt none (vd L) (·.2) (fun s=>(s.1,true)) (0,false)).1≠t then (ntZ,false)
  else ((rdNt none (vd L) (·.2) (fun s=>(s.1,true)) (0,false)).1,true)
def jig (t:ByteArray):Nt×Bool:=if 400<t.size then (ntZ,false)
 else if (rdNt (some 31) (qP t) (·.2) (fun s=>(s.1,true)) (0,false)).2.2=true∨t.size=0∨jV (rdNt (some 31) (qP t) (·.2) (fun s=>(s.1,true)) (0,false)).1≠t then (ntZ,false)
  else ((rdNt (some 31) (qP t) (·.2) (fun s=>(s.1,true)) (0,false)).1,true)
theorem jqE (l:List Int):(kT l).data.toList=qc l:=rfl
theorem jvQ {n:Nt} {t:ByteArray} (h:jV n=t) (hz:t.size≠0):jih t=(n,true):=by
 obtain ⟨h1,h2,h3,h4⟩:=jj8 h hz
 have hr:rvF t.size t.data.toList=some (jat n):=by
  subst h3;exact jnJ _ _ h2 (Nat.le_refl _)
 have hb:=jr0 (cap:=none) (sb:=fun s:Nat×Bool=>(s.1,true)) (by simp) h1 (jn3 (L:=jat n) (jat n) (rest:=[]) (lo:=0) (by simp))
 simp only [jih,hr,hb];rw [if_neg];rintro (g|g|g)
 ·cases g
 ·rw [h] at g;exact hz g
 ·exact g h
theorem jzo {n:Nt} {t:ByteArray} (h:jV n=t) (hz:t.size≠0):jig t=(n,true):=by
 obtain ⟨h1,h2,h3,h4⟩:=jj8 h hz
 have he:(n.deed.plan.edges.length:Int)≤31:=by
  have hd:=h1;unfold jF at hd;split at hd
  ·simp only [jcc,Bool.and_eq_true,decide_eq_true_eq] at hd;omega
  ·have hno:qd n.deed.plan=true→(n.deed.plan.edges.length:Int)=0:=fun hp=>by
    simp only [qd,Bool.and_eq_true,beq_iff_eq] at hp;exact hp.2
   have:qd n.deed.plan=true:=by
    repeat' split at hd
    all_goals first|(simp only [Bool.and_eq_true] at hd;exact hd.2)|cases hd
   have:=hno this;omega
 have hs:=jn2 (t:=t) (jat n) (rest:=[]) (k:=0) h2 (by subst h3;simp [jqE])
 have hb:=jr0 (cap:=some 31) (sb:=fun s:Int×Bool=>(s.1,true)) (fun c hc=>by cases hc;exact he) h1 hs
 simp only [jig,if_neg (show¬400<t.size by omega)]
 have e0:(((0:Nat):Int),false)=((0:Int),false):=rfl;rw [e0] at hb;rw [hb,if_neg];rintro (g|g|g)
 ·cases g
 ·exact hz g
 ·exact g h
theorem jnS (t:ByteArray):jih t=qp t:=by
 unfold qp;split
 ·rename_i h
  exact jvQ h.choose_spec.1 h.choose_spec.2
 ·rename_i h
  unfold jih;split
  ·rfl
  ·split
   ·rfl
   ·rename_i hc
    have g:=Classical.byContradiction fun g=>hc (.inr (.inr g))
    exact absurd ⟨_,g,fun hz=>hc (.inr (.inl (by rw [g];exact hz)))⟩ h
theorem jul (t:ByteArray):jig t=qp t:=by
 unfold qp;split
 ·rename_i h
  exact jzo h.choose_spec.1 h.choose_spec.2
 ·rename_i h
  unfold jig;split
  ·rfl
  ·split
   ·rfl
   ·rename_i hc
    exact absurd ⟨_,Classical.byContradiction fun g=>hc (.inr (.inr g)),fun hz=>hc (.inr (.inl hz))⟩ h
end Go.Proofs.Ytmnpailnelmpiaa
