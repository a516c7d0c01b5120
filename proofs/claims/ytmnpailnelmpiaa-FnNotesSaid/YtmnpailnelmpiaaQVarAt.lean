/- Parts. -/
import Derived.Test.YtmnpailnelmpiaaQHolds
set_option linter.unusedSimpArgs false
set_option linter.unusedVariables false
set_option maxHeartbeats 4000000
set_option maxRecDepth 100000
namespace Go.Proofs.Ytmnpailnelmpiaa
open Go.RowKit Go.Sort
theorem jjy:∀(f:Nat) (l:List UInt8) (n i:Nat),(∀c∈l.take f,128≤c.toNat)→vGo f l n i=none
 |0,_,_,_,_=>rfl
 |_+1,[],_,_,_=>rfl
 |f+1,b::l,n,i,h=>by
  have hb:=h b (by simp)
  rw [vGo,if_neg (by omega)]
  exact jjy f l _ _ fun c hc=>h c (by simp [hc])
structure GoOn (l:List UInt8) (i:Nat) (n:Nat):Prop where
 le:i≤l.length
 on:∀c∈l.take i,128≤c.toNat
 dec:n=jdw (l.take i)
theorem GoOn.start (l:List UInt8):GoOn l 0 0:=⟨Nat.zero_le _,by simp,rfl⟩
theorem GoOn.next {l:List UInt8} {i n:Nat} {b:UInt8} (h:GoOn l i n) (hb:l[i]?=some b) (h8:128≤b.toNat):GoOn l (i+1) (n+b.toNat%128*128^i):=by
 have hi:=(List.getElem?_eq_some_iff.1 hb).1;have e:l.take (i+1)=l.take i++[b]:=by rw [List.take_add_one,hb];rfl
 refine ⟨hi,fun c hc=>?_,?_⟩
 ·rw [e] at hc
  rcases List.mem_append.1 hc with hc|hc
  ·exact h.on c hc
  ·simp at hc;subst hc;exact h8
 ·rw [e,zj,←h.dec,List.length_take,Nat.min_eq_left (by omega)]
theorem GoOn.done {l:List UInt8} {i n:Nat} {b:UInt8} (h:GoOn l i n) (hi:i<5) (hb:l[i]?=some b) (h8:b.toNat<128):
 jai l=if n+b.toNat%128*128^i≤1000000000∧(kB (n+b.toNat%128*128^i)).length=i+1 then some (n+b.toNat%128*128^i,i+1) else none:=by
 have hl:=(List.getElem?_eq_some_iff.1 hb).1
 have e:l=l.take i++b::l.drop (i+1):=by
  have:l.drop i=b::l.drop (i+1):=by rw [List.drop_eq_getElem_cons hl];congr 1;exact (List.getElem?_eq_some_iff.1 hb).2
  rw [←this,List.take_append_drop]
 have hlen:(l.take i).length=i:=by rw [List.length_take];omega
 have:=jmu 5 (l.take i) [] (l.drop (i+1)) b h.on h8 (by omega)
 rw [←e] at this;simp only [List.nil_append,List.length_nil,Nat.zero_add,hlen] at this;rw [zj,hlen,←h.dec] at this;exact this
theorem GoOn.stop {l:List UInt8} {i n:Nat} (h:GoOn l i n) (hi:5≤i∨l.length≤i):jai l=none:=by
 refine jjy 5 l 0 0 fun c hc=>h.on c ?_
 rcases hi with hi|hi
 ·exact (List.take_sublist_take_left hi).subset hc
 ·rw [List.take_of_length_le hi];exact List.mem_of_mem_take hc
theorem GoOn.var {l:List UInt8} {i n:Nat} {b:UInt8} (h:GoOn l i n) (hb:l[i]?=some b) (h8:b.toNat<128):l.take (i+1)=kB (n+b.toNat%128*128^i)↔(kB (n+b.toNat%128*128^i)).length=i+1:=by
 have hl:=(List.getElem?_eq_some_iff.1 hb).1;have hlen:(l.take i).length=i:=by rw [List.length_take];omega
 have e:l.take (i+1)=l.take i++[b]:=by rw [List.take_add_one,hb];rfl
 have hd:n+b.toNat%128*128^i=jdw (l.take i++[b]):=by rw [zj,hlen,←h.dec]
 rw [hd,e];constructor
 ·intro g;rw [←g];simp [hlen]
 ·intro g
  exact ((jkk _ (jhB _ _ h.on h8)).2 (by rw [g];simp [hlen])).symm
theorem jv4:∀l:List UInt8,jdw l<128^l.length
 |[]=>by simp [jdw]
 |b::l=>by
  have:=jv4 l;simp only [jdw,List.length_cons,Nat.pow_succ];omega
theorem GoOn.lt {l:List UInt8} {i n:Nat} (h:GoOn l i n):n<128^i:=by
 have:=jv4 (l.take i);rw [List.length_take,Nat.min_eq_left h.le,←h.dec] at this;exact this
theorem jae {t:ByteArray} {k i:Nat} {b:UInt8} (h:(t.data.toList.drop k)[i]?=some b):t[k+i]?=some b:=by
 rw [List.getElem?_drop,Array.getElem?_toList] at h
 have hk:k+i<t.size:=by
  obtain ⟨h1,_⟩:=Array.getElem?_eq_some_iff.1 h;exact h1
 rw [getElem?_pos t (k+i) hk];rw [getElem?_pos t.data (k+i) hk] at h;exact h
theorem jy8 {i:Nat} (h:i<5):128^i≤268435456:=by
 obtain rfl|rfl|rfl|rfl|rfl:i=0∨i=1∨i=2∨i=3∨i=4:=by omega
 all_goals decide
theorem shl_m (b:Int) {m:Nat} (hm:m≤40) (hb:0≤b∧b<128):jaM .shl .i64 b (m:Int)=.int .i64 (b*((2^m:Nat):Int)):=by
 have hbits:IntKind.i64.bits=64:=rfl;have e1:min ((m:Int).toNat) IntKind.i64.bits=m:=by rw [hbits,Int.toNat_natCast];omega
 have e2:(2:Int)^m=((2^m:Nat):Int):=by rw [Int.natCast_pow];rfl
 have hz:jaM .shl .i64 b (m:Int)=.int .i64 (IntKind.i64.wrap (b*((2^m:Nat):Int))):=by
  show Value.int .i64 (IntKind.i64.wrap (b*2^(min ((m:Int).toNat) IntKind.i64.bits)))=_;rw [e1,e2]
 rw [hz];have hp:(2:Nat)^m≤2^40:=Nat.pow_le_pow_right (by decide) hm
 have hp':(2:Nat)^m≤1099511627776:=hp;have h1:b*((2^m:Nat):Int)≤128*1099511627776:=Int.mul_le_mul (by omega) (Int.ofNat_le.2 hp') (Int.natCast_nonneg _) (by omega)
 have h0:0≤b*((2^m:Nat):Int):=Int.mul_nonneg hb.1 (Int.natCast_nonneg _);generalize b*((2^m:Nat):Int)=z at*;rw [jg (by omega) (by omega)]
theorem shl_i (b:Int) {i:Nat} (h:i<5) (hb:0≤b∧b<128):jaM .shl .i64 b (7*(i:Int))=.int .i64 (b*((128^i:Nat):Int)):=by
 have:=shl_m b (m:=7*i) (by omega) hb
 rw [Nat.pow_mul] at this;rw [show 7*(i:Int)=((7*i:Nat):Int) by omega]
 exact this
theorem shl_w (b:Int) {i:Nat} (h:i<5) (hb:0≤b∧b<128):IntKind.i64.wrap (b*2^min (7*(i:Int)).toNat 64)=b*((128^i:Nat):Int):=by
 have h1:Value.int .i64 (IntKind.i64.wrap (b*2^min (7*(i:Int)).toNat 64))=.int .i64 (b*((128^i:Nat):Int)):=shl_i b h hb;injection h1
theorem jtN (n:Nat):(zp (n:Int)).size=if n≤1000000000 then (kB n).length else 0:=by
 split
 ·rename_i h;rw [ja7 h];rfl
 ·rename_i h
  have:zp (n:Int)=⟨#[]⟩:=by rw [zp,if_neg (by omega)]
  rw [this];rfl
theorem jtV (a b:ByteArray):(a.toList==b.toList)=decide (a=b):=by
 rw [ByteArray.toList_eq,ByteArray.toList_eq,Bool.eq_iff_iff,beq_iff_eq,decide_eq_true_iff];constructor
 ·intro h;cases a;cases b;congr 1;exact Array.toList_inj.1 h
 ·rintro rfl;rfl
theorem juX (t:ByteArray) (k m:Nat):t.extract k (k+m)=⟨((t.data.toList.drop k).take m).toArray⟩:=by
 apply ByteArray.ext
 apply Array.toList_inj.1
 rw [ByteArray.data_extract,Array.toList_extract,List.extract_eq_take_drop,Nat.add_sub_cancel_left]
theorem jxL {t:ByteArray} {k m N:Nat} (hN:N≤1000000000):t.extract k (k+m)=zp (N:Int)↔(t.data.toList.drop k).take m=kB N:=by
 rw [juX,ja7 hN];constructor
 ·intro h;injection h with h;exact (List.toArray_inj h:_)
 ·intro h;rw [h]
theorem jl2 (u:UInt8):IntKind.i64.wrap (u.toNat:Int)=u.toNat:=jg (by omega) (by have:=u.toNat_lt;omega)
theorem jvL (u:UInt8):((u.toNat:Int)).tmod 128=((u.toNat%128:Nat):Int):=rfl
theorem kX {s:St} (a b:Nat) (u v:Value) (ha:s.t a=.c (.v u)) (hb:s.t b=.c (.v v)) (hu:u.oneCell'=true:=by rfl) (hv:v.oneCell'=true:=by rfl):jqv [.t a,.t b] (.tup [(false,[.val u]),(false,[.val v])]) s:=by
 simp only [zR,ji2,ha,hb,ji1,kn,jX];refine ⟨by simp,?_⟩
 simp [kM,A0.one,hu,hv,IsD,RT.flat]
def jf4:C:=iS [iA 4 (iN 0),iA 5 (iN 0)] (.seq (iS [iA 9 (iM 1),iA 10 (iM 0),iA 11 (.len true (.t 10)),iA 12 (iQ .sub 3 11 1),iA 13 (.call 61 [.t 9,.c (.int .i64 0),.t 12]),iA 14 (iU 13)] (iD 14 (iS [iA 4 (iN 0),iA 5 (iN (-1))] .ret) .skip)) (iS [iA 6 (iN 0)] (.seq (iS [iA 7 (iN 0)] (.blk 0 (.loop (.seq (iS [iA 15 (iM 7),iA 16 (iQ .lss 3 15 5),iA 17 (iM 16),iB 18 17 true (iM 1),iB 19 17 true (iM 7),iB 20 17 true (iP .add 3 18 19),iB 21 17 true (iM 0),iB 22 17 true (.len true (.t 21)),iB 23 17 true (iP .lss 3 20 22),iA 24 (.pick (.t 17) (.t 23) (.c (.bool false)))] (iD 24 .skip (.exit 0))) (.seq (.blk 1 (iS [iA 27 (iM 0),iA 28 (iM 1),iA 29 (iM 7),iA 30 (iP .add 3 28 29),iA 31 (.sidx (.t 27) (.t 30)),iA 32 (.cv (.num .i64) 0 (.t 31)),iA 8 (iM 32)] (iS [iA 33 (iM 6),iA 34 (iM 8),iA 35 (iQ .rem 3 34 128),iA 36 (iM 7),iA 37 (.bin .mul 3 (.c (.int .i64 7)) (.t 36)),iA 38 (iP .shl 3 35 37),iA 39 (iP .add 3 33 38),iA 6 (iM 39)] (iS [iA 40 (iM 8),iA 41 (iQ .lss 3 40 128)] (iD 41 (.seq (iS [iA 42 (iM 6),iA 43 (.call 77 [.t 42]),iA 44 (.len true (.t 43)),iA 45 (iM 7),iA 46 (iQ .add 3 45 1),iA 47 (iP .neq 3 44 46)] (iD 47 (iS [iA 4 (iN 0),iA 5 (iN (-1))] .ret) .skip)) (iS [iA 48 (iM 6),iA 49 (iM 1),iA 50 (iM 7),iA 51 (iP .add 3 49 50),iA 52 (iQ .add 3 51 1),iA 4 (iM 48),iA 5 (iM 52)] .ret)) .skip))))) (.reg [iA 25 (iM 7),iA 26 (iQ .add 3 25 1),iA 7 (iM 26)])))))) (iS [iA 4 (iN 0),iA 5 (iN (-1))] .ret))))
theorem jhY:fnC Try.prog Try.f68=some (jf4,[.t 4,.t 5],53):=by kernel_rfl
def jf0:C:=iS [iA 4 (iN 0),iA 5 (iN 0)] (.seq (iS [iA 9 (iM 1),iA 10 (iQ .lss 3 9 0)] (iD 10 (iS [iA 4 (iN 0),iA 5 (iN (-1))] .ret) .skip)) (iS [iA 6 (iN 0)] (iS [iA 7 (iN 1)] (.seq (iS [iA 11 (iM 1),iA 8 (iM 11)] (.blk 0 (.loop (.seq (iS [iA 12 (iM 8),iA 13 (iM 0),iA 14 (.len true (.t 13)),iA 15 (iP .lss 3 12 14),iA 16 (iM 15),iB 17 16 true (iM 8),iB 18 16 true (iM 1),iB 19 16 true (iQ .add 3 18 5),iB 20 16 true (iP .lss 3 17 19),iA 21 (.pick (.t 16) (.t 20) (.c (.bool false)))] (iD 21 .skip (.exit 0))) (.seq (.blk 1 (iS [iA 24 (iM 6),iA 25 (iM 0),iA 26 (iM 8),iA 27 (.sidx (.t 25) (.t 26)),iA 28 (.cv (.num .i64) 0 (.t 27)),iA 29 (iQ .rem 3 28 128),iA 30 (iM 7),iA 31 (iP .mul 3 29 30),iA 32 (iP .add 3 24 31),iA 6 (iM 32)] (.seq (iS [iA 33 (iM 0),iA 34 (iM 8),iA 35 (.sidx (.t 33) (.t 34)),iA 36 (.bin .lss 5 (.t 35) (.c (.int .u8 128)))] (iD 36 (.seq (.seq (.dreg (T.pure 0 (iA 37 (iM 6)) (T.pure 1 (iA 38 (iQ .gtr 3 37 1000000000)) (T.pure 2 (iA 39 (iM 38)) (T.pure 3 (iB 40 39 false (iM 0)) (T.pure 4 (iB 41 39 false (iM 1)) (T.pure 5 (iB 42 39 false (iM 8)) (T.pure 6 (iB 43 39 false (iQ .add 3 42 1)) (T.pure 7 (iB 44 39 false (.sl 0 (.t 40) (some (.t 41)) (some (.t 43)))) (T.pure 8 (iB 45 39 false (iM 6)) (T.alt (iB 46 39 false (.call 73 [.t 45])) [7,6,5,4,3] (T.pure 10 (iB 47 39 false (iP .neq 9 44 46)) (T.pure 11 (iA 48 (.pick (.t 39) (.c (.bool true)) (.t 47))) T.done)) T.stop))))))))))) (iD 48 (iS [iA 4 (iN 0),iA 5 (iN (-1))] .ret) .skip)) (iS [iA 49 (iM 6),iA 50 (iM 8),iA 51 (iQ .add 3 50 1),iA 4 (iM 49),iA 5 (iM 51)] .ret)) .skip)) (.reg [iA 52 (iM 7),iA 53 (iQ .mul 3 52 128),iA 7 (iM 53)])))) (.reg [iA 22 (iM 8),iA 23 (iQ .add 3 22 1),iA 8 (iM 23)])))))) (iS [iA 4 (iN 0),iA 5 (iN (-1))] .ret)))))
theorem jhT:fnC Try.prog Try.f64=some (jf0,[.t 4,.t 5],54):=by kernel_rfl
def jbO:C:=iS [iA 2 (.mov (.c (.slice none 0 0))),iA 3 (iO false)] (iS [iA 4 (.mov (.c (.slice none 0 0)))] (.seq (iS [iA 5 (iN 0)] (.blk 0 (.loop (.seq (iS [iA 8 (iM 5),iA 9 (iM 0),iA 10 (.len true (.t 9)),iA 11 (iP .lss 3 8 10)] (iD 11 .skip (.exit 0))) (.blk 1 (iS [iA 13 (iM 0),iA 14 (iM 5),iA 15 (.call 68 [.t 13,.t 14]),iA 12 (iM 15),iA 16 (iE 12 0),iA 17 (iE 12 1),iA 6 (iM 16),iA 7 (iM 17)] (.seq (iS [iA 18 (iM 7),iA 19 (iQ .lss 3 18 0)] (iD 19 (iS [iA 2 (.mov (.c (.slice none 0 0))),iA 3 (iO false)] .ret) .skip)) (iS [iA 20 (iM 4),iA 21 (iM 6),iA 22 (.bsl 3 1 1 [none] [(0,1,.t 21)]),iA 23 (.app 3 1 8 (.t 20) (.t 22)),iA 4 (iM 23)] (.reg [iA 24 (iM 7),iA 5 (iM 24)]))))))))) (iS [iA 25 (iM 4),iA 2 (iM 25),iA 3 (iO true)] .ret)))
theorem jee:fnC Try.prog Try.f31=some (jbO,[.t 2,.t 3],26):=by kernel_rfl
theorem jfR (t:ByteArray) (k:Int) (ht:t.size≤1000000000) (hk:k≤1000000000):kl Try.prog 68 [.c (.val (.string t)),.c (.val (.int .i64 k))] (.tup [(false,[.val (.int .i64 (vAt t k).1)]),(false,[.val (.int .i64 (vAt t k).2)])]):=by
 refine jr Try.func68 jhY (by simp) ?_
 unfold jf4;have hw1:IntKind.i64.wrap ((t.size:Int)-1)=(t.size:Int)-1:=jg (by omega) (by omega)
 simp only [go_sem,hw1];refine jb (km k 0 ((t.size:Int)-1)) (by simp only [go_sem,hw1]) fun η=>?_
 simp only [go_sem,hw1];by_cases hin:0≤k∧k≤(t.size:Int)-1;rotate_left
 ·have hb:decide (0≤k∧k≤(t.size:Int)-1)=false:=decide_eq_false hin
  have hv:vAt t k=(0,-1):=by
   rw [vAt];split
   ·rfl
   ·rw [List.drop_eq_nil_of_le (by simp only [Array.length_toList];have:t.data.size=t.size:=rfl;omega)]
    rfl
  simp only [go_sem,hb,hv,Bool.not_false];exact kX _ _ _ _ (by simp only [go_sem]) (by simp only [go_sem])
 have hb:decide (0≤k∧k≤(t.size:Int)-1)=true:=decide_eq_true hin;simp only [go_sem,hb,Bool.not_true];clear hb;obtain ⟨k,rfl⟩:=Int.eq_ofNat_of_zero_le hin.1
 have hv:vAt t (k:Int)=match jai (t.data.toList.drop k) with
  |some (v,m)=>((v:Int),(k:Int)+(m:Int))
  |none=>(0,-1):=by rw [vAt,if_neg (by omega),Int.toNat_natCast];rfl
 rw [hv];have hlen:(t.data.toList.drop k).length=t.size-k:=by rw [List.length_drop,Array.length_toList];rfl
 generalize hL:t.data.toList.drop k=L at*;refine jq (fun i:Nat×Nat=>St.of [(0,.c (.v (.string t))),(1,Ni k),(6,Ni i.2),(7,Ni i.1)] []) (fun i=>i.1≤5∧GoOn L i.1 i.2) (fun i=>5-i.1) (0,0) (⟨by decide,GoOn.start L⟩) (jl [] (by simp only [go_sem]<;>and_intros<;>first|rfl|assumption|trivial)) ?_
 rintro ⟨i,n⟩ ⟨hi,hG⟩;dsimp only at hi hG;have hile:=hG.le;have hwk:IntKind.i64.wrap ((k:Int)+(i:Int))=((k+i:Nat):Int):=by rw [jg (by omega) (by omega)];omega
 by_cases hi5:i<5;rotate_left
 ·have hi5':¬(i:Int)<5:=by omega
  rw [hG.stop (.inl (by omega))]
  simp only [go_sem,hi5'];exact kX _ _ _ _ (by simp only [go_sem]) (by simp only [go_sem])
 have hi5':(i:Int)<5:=by omega
 by_cases hlt:i<L.length;rotate_left
 ·have hlt':¬((k+i:Nat):Int)<(t.size:Int):=by omega
  rw [hG.stop (.inr (by omega))]
  simp only [go_sem,hi5',hwk,hlt'];exact kX _ _ _ _ (by simp only [go_sem]) (by simp only [go_sem])
 have hlt':((k+i:Nat):Int)<(t.size:Int):=by omega
 have h0:(0:Int)≤((k+i:Nat):Int):=by omega
 obtain ⟨u,hu⟩:=je hlt;have hut:=jae (t:=t) (k:=k) (by rw [hL];exact hu)
 have hu8:=u.toNat_lt;have hwm:IntKind.i64.wrap (7*(i:Int))=7*(i:Int):=jg (by omega) (by omega)
 have hsh:=shl_w ((u.toNat%128:Nat):Int) hi5 ⟨by omega,by omega⟩
 have hnl:=hG.lt;have hpi:=jy8 hi5;have hmul:(u.toNat%128)*128^i≤128*268435456:=Nat.mul_le_mul (by omega) hpi
 have hcast:((u.toNat%128:Nat):Int)*((128^i:Nat):Int)=((u.toNat%128*128^i:Nat):Int):=by rw [Int.natCast_mul]
 have hadd:IntKind.i64.wrap ((n:Int)+((u.toNat%128*128^i:Nat):Int))=((n+u.toNat%128*128^i:Nat):Int):=by rw [jg (by omega) (by omega)];omega
 have hwi:IntKind.i64.wrap ((i:Int)+1)=((i+1:Nat):Int):=jg (by omega) (by omega)
 have hwk1:IntKind.i64.wrap (((k+i:Nat):Int)+1)=(k:Int)+((i+1:Nat):Int):=by rw [jg (by omega) (by omega)];omega
 have hnx:=fun h=>hG.next hu h
 have hdn:=fun h=>hG.done hi5 hu h
 rw [hcast] at hsh;have hlen2:=jtN (n+u.toNat%128*128^i);generalize n+u.toNat%128*128^i=N at*;simp only [go_sem,hi5',hwk,hlt',h0,Int.toNat_natCast,hut,jl2,jvL,hwm,hsh,hadd];refine ⟨u,rfl,by omega,?_⟩
 by_cases h8:u.toNat<128
 ·have h8':(u.toNat:Int)<128:=by omega
  have hd:=hdn h8;simp only [go_sem,h8'];refine jb (vt (N:Int)) (by simp only [go_sem,hsh,hadd]) fun η=>?_
  simp only [go_sem,hsh,hadd];by_cases hc:N≤1000000000∧(kB N).length=i+1
  ·rw [if_pos hc] at hd
   have hb:(((zp (N:Int)).size:Int) !=((i+1:Nat):Int))=false:=by rw [hlen2,if_pos hc.1,hc.2];simp
   rw [hd];simp only [go_sem,hwi,hb,hwk,hwk1];exact kX _ _ _ _ (by simp only [go_sem]) (by simp only [go_sem])
  ·rw [if_neg hc] at hd
   have hb:(((zp (N:Int)).size:Int) !=((i+1:Nat):Int))=true:=by
    rw [hlen2];simp only [bne_iff_ne,ne_eq];split
    ·rename_i g;have:¬(kB N).length=i+1:=fun q=>hc ⟨g,q⟩
     omega
    ·omega
   rw [hd];simp only [go_sem,hwi,hb];exact kX _ _ _ _ (by simp only [go_sem]) (by simp only [go_sem])
 ·have h8':¬(u.toNat:Int)<128:=by omega
  simp only [go_sem,h8',hwi];exact ⟨(i+1,N),⟨hi5,hnx (by omega)⟩,(jl [] (by simp only [go_sem,hsh,hadd]<;>and_intros<;>first|rfl|assumption|trivial)),by (try dsimp only);omega⟩
theorem jfO (t:ByteArray) (k:Int) (ht:t.size≤1000000000) (hk:k≤1000000000):kl Try.prog 64 [.c (.val (.string t)),.c (.val (.int .i64 k))] (.tup [(false,[.val (.int .i64 (vAt t k).1)]),(false,[.val (.int .i64 (vAt t k).2)])]):=by
 refine jr Try.func64 jhT (by simp) ?_
 unfold jf0;simp only [go_sem];by_cases hneg:k<0
 ·have hv:vAt t k=(0,-1):=by rw [vAt,if_pos hneg]
  rw [hv];simp only [go_sem,hneg];exact kX _ _ _ _ (by simp only [go_sem]) (by simp only [go_sem])
 simp only [go_sem,hneg];obtain ⟨k,rfl⟩:=Int.eq_ofNat_of_zero_le (Int.not_lt.1 hneg)
 have hv:vAt t (k:Int)=match jai (t.data.toList.drop k) with
  |some (v,m)=>((v:Int),(k:Int)+(m:Int))
  |none=>(0,-1):=by rw [vAt,if_neg (by omega),Int.toNat_natCast];rfl
 rw [hv];have hlen:(t.data.toList.drop k).length=t.size-k:=by rw [List.length_drop,Array.length_toList];rfl
 generalize hL:t.data.toList.drop k=L at*;refine jq (fun i:Nat×Nat=>St.of [(0,.c (.v (.string t))),(1,Ni k),(6,Ni i.2),(7,Ni ((128^i.1:Nat):Int)),(8,Ni ((k+i.1:Nat):Int))] []) (fun i=>i.1≤5∧GoOn L i.1 i.2) (fun i=>5-i.1) (0,0) (⟨by decide,GoOn.start L⟩) (jl [] (by simp only [go_sem,Nat.add_zero,Nat.pow_zero,show ((1:Nat):Int)=1 from rfl]<;>and_intros<;>first|rfl|assumption|trivial)) ?_
 rintro ⟨i,n⟩ ⟨hi,hG⟩;dsimp only at hi hG;have hile:=hG.le;have hwk:IntKind.i64.wrap ((k:Int)+5)=((k+5:Nat):Int):=by rw [jg (by omega) (by omega)];omega
 by_cases hlt:i<L.length;rotate_left
 ·have hlt':¬((k+i:Nat):Int)<(t.size:Int):=by omega
  rw [hG.stop (.inr (by omega))]
  simp only [go_sem,hlt',hwk];exact kX _ _ _ _ (by simp only [go_sem]) (by simp only [go_sem])
 have hlt':((k+i:Nat):Int)<(t.size:Int):=by omega
 by_cases hi5:i<5;rotate_left
 ·have hi5':¬((k+i:Nat):Int)<((k+5:Nat):Int):=by omega
  rw [hG.stop (.inl (by omega))]
  simp only [go_sem,hi5',hlt',hwk];exact kX _ _ _ _ (by simp only [go_sem]) (by simp only [go_sem])
 have hi5':((k+i:Nat):Int)<((k+5:Nat):Int):=by omega
 have h0:(0:Int)≤((k+i:Nat):Int):=by omega
 obtain ⟨u,hu⟩:=je hlt;have hut:=jae (t:=t) (k:=k) (by rw [hL];exact hu)
 have hu8:=u.toNat_lt;have hnl:=hG.lt;have hpi:=jy8 hi5;have hmul:(u.toNat%128)*128^i≤128*268435456:=Nat.mul_le_mul (by omega) hpi
 have hpw:128^(i+1)=128^i*128:=Nat.pow_succ ..;have hcast:IntKind.i64.wrap (((u.toNat%128:Nat):Int)*((128^i:Nat):Int))=((u.toNat%128*128^i:Nat):Int):=by rw [←Int.natCast_mul,jg (by omega) (by omega)]
 have hadd:IntKind.i64.wrap ((n:Int)+((u.toNat%128*128^i:Nat):Int))=((n+u.toNat%128*128^i:Nat):Int):=by rw [jg (by omega) (by omega)];omega
 have hw1:IntKind.i64.wrap (((k+i:Nat):Int)+1)=((k+(i+1):Nat):Int):=by rw [jg (by omega) (by omega)];omega
 have hby:IntKind.i64.wrap (((128^i:Nat):Int)*128)=((128^(i+1):Nat):Int):=by
  rw [hpw,jg (by omega) (by omega)];omega
 have hnx:=fun h=>hG.next hu h
 have hdn:=fun h=>hG.done hi5 hu h
 have hvr:=fun h=>hG.var hu h
 generalize u.toNat%128*128^i=M at*;have hN:n+M≤100000000000:=by omega
 generalize n+M=N at*;simp only [go_sem,hi5',hwk,hlt',h0,Int.toNat_natCast,hut,jl2,jvL,hcast,hadd];refine ⟨u,rfl,by omega,?_⟩
 by_cases h8:u.toNat<128
 ·have h8':(u.toNat:Int)<128:=by omega
  have hd:=hdn h8;have hvr':=hvr h8;by_cases hbig:N≤1000000000
  ·have hbig':¬(1000000000:Int)<(N:Int):=by omega
   simp only [go_sem,h8',hcast,hadd,hut,hbig',hw1,Bool.not_false];refine ⟨⟨by omega,by omega⟩,?_⟩
   refine jb (vr (N:Int)) (by simp only [go_sem,hcast,hadd]) fun η=>?_
   simp only [go_sem,hcast,hadd];have hx:=jxL (t:=t) (k:=k) (m:=i+1) hbig;rw [hL,hvr'] at hx;have hcmp:((t.extract k (k+(i+1))).toList==(zp (N:Int)).toList)=decide ((kB N).length=i+1):=by rw [jtV];simp only [hx]
   by_cases hc:(kB N).length=i+1
   ·have hc':decide ((kB N).length=i+1)=true:=decide_eq_true hc
    rw [hd,if_pos ⟨hbig,hc⟩];simp only [go_sem,hcmp,hc',Bool.not_true,hw1,hadd,hcast];exact kX _ _ _ _ (by simp only [go_sem]) (by simp only [go_sem,hw1];rfl)
   ·have hc':decide ((kB N).length=i+1)=false:=decide_eq_false hc
    rw [hd,if_neg (fun h=>hc h.2)]
    simp only [go_sem,hcmp,hc',Bool.not_false];exact kX _ _ _ _ (by simp only [go_sem]) (by simp only [go_sem])
  ·have hbig':(1000000000:Int)<(N:Int):=by omega
   simp only [go_sem,h8',hcast,hadd,hut,hbig',Bool.not_true];rw [hd,if_neg (by omega)]
   exact kX _ _ _ _ (by simp only [go_sem]) (by simp only [go_sem])
 ·have h8':¬(u.toNat:Int)<128:=by omega
  simp only [go_sem,h8',hcast,hadd,hut,hby];exact ⟨(i+1,N),⟨by omega,hnx (by omega)⟩,(jl [] (by simp only [go_sem,hcast,hadd,hw1]<;>and_intros<;>first|rfl|assumption|trivial)),by (try dsimp only);omega⟩
end Go.Proofs.Ytmnpailnelmpiaa
