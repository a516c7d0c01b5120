/- Parts. -/
import Derived.Test.YtmnpailnelmpiaaQReadN
import Derived.Test.YtmnpailnelmpiaaQScan
set_option linter.unusedSimpArgs false
set_option linter.unusedVariables false
set_option maxHeartbeats 8000000
set_option maxRecDepth 100000
namespace Go.Proofs.Ytmnpailnelmpiaa
open Go.RowKit Go.Sort
theorem zQ (t:ByteArray) (ht:t.size≤1048576):kg Try.prog 7 [.c (.val (.string t))] (.tup [(true,jq (kF t).1),(false,[.val (.bool (kF t).2)])]):=by
 rw [←jpC];exact je0 t ht
theorem zR (t:ByteArray) (ht:t.size≤1048576):kg Try.prog 8 [.c (.val (.string t))] (.tup [(true,jq (kF t).1),(false,[.val (.bool (kF t).2)])]):=by
 rw [←jpD];exact je4 t ht
theorem jpR {t:ByteArray} (h:(kF t).2=true):qk (kF t).1=t∧t.size≠0:=by
 unfold kF at h⊢;split
 ·rename_i hx;exact hx.choose_spec
 ·rename_i hx;rw [dif_neg hx] at h;cases h
theorem jcc {t:ByteArray} (h:(kF t).2=true):0≤(kF t).1.seq∧(kF t).1.seq≤1000000000∧zz (kF t).1≤31:=by
 obtain ⟨h1,h2⟩:=jpR h;obtain ⟨h3,h4,-⟩:=jjs h1 h2;have h5:=h4 (kF t).1.seq (by simp [je8])
 refine ⟨h5.1,h5.2,?_⟩;generalize (kF t).1=n at*;have hd:=h3;unfold jI at hd;simp only [zz,jbF,jdY];split at hd
 ·simp only [jb8,Bool.and_eq_true,decide_eq_true_eq] at hd;omega
 ·have hno:qa n.deed.plan=true→n.deed.plan.edges.length=0:=fun hp=>by
   simp only [qa,Bool.and_eq_true,beq_iff_eq] at hp;omega
  have:qa n.deed.plan=true:=by
   repeat' split at hd
   all_goals first|(simp only [Bool.and_eq_true] at hd;exact hd.2)|cases hd
  have:=hno this;omega
def jd3 (l:List Nt) (n:Nt):Bool:=match l.getLast? with
 |none=>true
 |some m=>n.seq==m.seq+1
noncomputable def zT:List ByteArray→List Nt×Nat→List Nt×Nat
 |[],x=>x
 |b::l,x=>if (kF b).2=false∨jd3 x.1 (kF b).1=false then x else zT l (x.1++[(kF b).1],x.2+(kU b).size)
noncomputable def vA (t:ByteArray):List Nt×Nat:=zT (zC t).1 ([],0)
structure NiTo (bs:List ByteArray) (k:Nat) (l:List Nt) (z:Nat):Prop where
 le:k≤bs.length
 len:l.length=k
 sz:z≤409*k
 ok:∀n∈l,0≤n.seq∧n.seq≤1000000000∧zz n≤31
 eq:zT bs ([],0)=zT (bs.drop k) (l,z)
theorem NiTo.start (bs:List ByteArray):NiTo bs 0 [] 0:=⟨Nat.zero_le _,rfl,Nat.le_refl _,by simp,rfl⟩
theorem NiTo.next {bs:List ByteArray} {k z:Nat} {l:List Nt} {b:ByteArray} (h:NiTo bs k l z) (hb:bs[k]?=some b) (h1:(kF b).2=true) (h2:jd3 l (kF b).1=true):NiTo bs (k+1) (l++[(kF b).1]) (z+(kU b).size):=by
 have hk:=(List.getElem?_eq_some_iff.1 hb).1
 have hd:bs.drop k=b::bs.drop (k+1):=by
  obtain ⟨hk,rfl⟩:=List.getElem?_eq_some_iff.1 hb;exact List.drop_eq_getElem_cons hk
 have hf:=jff b;refine ⟨hk,by simp [h.len],by have:=h.sz;omega,fun n hn=>?_,?_⟩
 ·rcases List.mem_append.1 hn with hn|hn
  ·exact h.ok n hn
  ·simp at hn;subst hn;exact jcc h1
 ·rw [h.eq,hd,zT,if_neg]
  rw [h1,h2];simp
theorem NiTo.stop {bs:List ByteArray} {k z:Nat} {l:List Nt} {b:ByteArray} (h:NiTo bs k l z) (hb:bs[k]?=some b) (h1:(kF b).2=false∨jd3 l (kF b).1=false):zT bs ([],0)=(l,z):=by
 have hd:bs.drop k=b::bs.drop (k+1):=by
  obtain ⟨hk,rfl⟩:=List.getElem?_eq_some_iff.1 hb;exact List.drop_eq_getElem_cons hk
 rw [h.eq,hd,zT,if_pos h1]
theorem NiTo.done {bs:List ByteArray} {k z:Nat} {l:List Nt} (h:NiTo bs k l z) (hk:¬k<bs.length):zT bs ([],0)=(l,z):=by
 rw [h.eq,List.drop_eq_nil_of_le (by omega)];rfl
theorem jeO (t:ByteArray) (ht:t.size≤1048576):(∀b∈(zC t).1,1≤b.size∧b.size≤400)∧(zC t).1.length≤12000:=by
 unfold zC;split
 ·simp
 ·have key:∀(f k:Nat) (l:List ByteArray),ScTo t k l→t.size-k<f→∃k',ScTo t k' (jeP t f k l).1:=by
   intro f
   induction f with
   |zero=>intro k l _ h;omega
   |succ f ih=>
    intro k l h hf;rw [jeP];split
    ·exact ⟨k,h⟩
    ·rename_i hn
     obtain ⟨h1,h2⟩:=h.next hn;exact ih _ _ h2 (by have:=h2.le;omega)
  obtain ⟨k',h⟩:=key (t.size+1) 0 [] (.start t) (by omega)
  refine ⟨h.szs,?_⟩;have:=h.len;have:=h.le;omega
theorem jdb (l:List Nt) (n:Nt):D.sl 12 tNt (l.flatMap jq++[.val (.int .i64 n.seq),.val (.int .i64 n.deed.kind),.val (.int .i64 n.deed.run),.val (.int .i64 n.deed.plan.prio),.val (.int .i64 n.deed.plan.most),.val (.int .i64 n.deed.plan.wait),.val (.int .i64 n.deed.plan.tasks),jv n.deed.plan.edges,.val (.int .i64 n.deed.task),.val (.int .i64 n.deed.tri),.val (.int .i64 n.deed.worker),.val (.int .i64 n.deed.draw)])=ke (l++[n]):=jmk l n
theorem jdE {l:List ByteArray} {k:Nat} {b:ByteArray} (h:l[k]?=some b):((l.flatMap fun b=>[D.val (.string b)]).drop k).take 1=[D.val (.string b)]:=by
 have:=jez (enc:=fun b=>[D.val (.string b)]) (size:=1) (fun _=>rfl) h (j:=0) (n:=1) (by decide)
 simpa using this
theorem jdi {l:List ByteArray} {k:Nat} {b:ByteArray} (h:l[k]?=some b):k+1≤(l.flatMap fun b=>[D.val (.string b)]).length:=by
 have:=jev (enc:=fun b=>[D.val (.string b)]) (size:=1) (fun _=>rfl) h (j:=0) (n:=1) (by decide)
 simpa using this
theorem jkY {l:List Nt} {k:Nat} {m:Nt} (h:l[k]?=some m):((l.flatMap jq).drop (k*12)).take 1=[.val (.int .i64 m.seq)]:=jez (enc:=jq) (size:=12) (fun _=>rfl) h (j:=0) (n:=1) (by decide)
theorem jkC {l:List Nt} {k:Nat} {m:Nt} (h:l[k]?=some m):k*12+1≤(l.flatMap jq).length:=jev (enc:=jq) (size:=12) (fun _=>rfl) h (j:=0) (n:=1) (by decide)
theorem jq2 {l:List Nt} {k:Nat} {m:Nt} (hl:l.length=k+1) (h:l[k]?=some m) (n:Nt):jd3 l n=(n.seq==m.seq+1):=by
 have:l.getLast?=some m:=by rw [List.getLast?_eq_getElem?,hl];exact h
 simp only [jd3,this]
def jby:C:=iS [iA 2 (.mov (.c (.slice none 0 0))),iA 3 (iN 0)] (iS [iA 4 (.mov (.c (.slice none 0 0)))] (iS [iA 13 (iM 0),iA 14 (.call 39 [.t 13]),iA 12 (iM 14),iA 15 (iE 12 0),iA 16 (iE 12 1),iA 5 (iM 15),iA 6 (iM 16)] (iS [iA 7 (iN 0)] (.seq (iS [iA 17 (iM 5),iA 18 (iG 17),iA 19 (iN 0)] (.blk 0 (.loop (iS [iA 20 (iP .lss 3 19 18)] (.seq (iD 20 .skip (.exit 0)) (.seq (.blk 1 (iS [iA 21 (iI 1 17 19),iA 22 (iL 21),iA 9 (iM 22)] (iS [iA 24 (iM 9),iA 25 (.call 8 [.t 24]),iA 23 (iM 25),iA 26 (iE 23 0),iA 27 (iE 23 1),iA 10 (.alloc 28 [.int .i64 0,.int .i64 0,.int .i64 0,.int .i64 0,.int .i64 0,.int .i64 0,.int .i64 0,.slice none 0 0,.int .i64 0,.int .i64 0,.int .i64 0,.int .i64 0]),iC (.st 12 [none,none,none,none,none,none,none,some (2,103),none,none,none,none] (.t 10) (.t 26)),iA 11 (iM 27)] (.seq (.seq (.dreg (T.pure 0 (iA 28 (iM 11)) (T.pure 1 (iA 29 (iU 28)) (T.pure 2 (iA 30 (iM 29)) (T.pure 3 (iB 31 30 false (iM 4)) (T.pure 4 (iB 32 30 false (iG 31)) (T.pure 5 (iB 33 30 false (iQ .gtr 3 32 0)) (T.pure 6 (iB 34 30 false (iM 33)) (T.pure 7 (iB 35 34 true (iF 0 10)) (T.pure 8 (iB 36 34 true (iL 35)) (T.pure 9 (iB 37 34 true (iM 4)) (T.pure 10 (iB 38 34 true (iM 4)) (T.pure 11 (iB 39 34 true (iG 38)) (T.pure 12 (iB 40 34 true (iQ .sub 3 39 1)) (T.pure 13 (iB 41 34 true (iI 12 37 40)) (T.pure 14 (iB 42 34 true (iF 0 41)) (T.pure 15 (iB 43 34 true (iL 42)) (T.pure 16 (iB 44 34 true (iQ .add 3 43 1)) (T.pure 17 (iB 45 34 true (iP .neq 3 36 44)) (T.pure 18 (iB 46 30 false (.pick (.t 34) (.t 45) (.c (.bool false)))) (T.pure 19 (iA 47 (.pick (.t 30) (.c (.bool true)) (.t 46))) T.done))))))))))))))))))))) (iD 47 (.exit 0) .skip)) (iS [iA 48 (iM 4),iA 49 (iT 12 10),iA 50 (.bsl 28 12 1 [none,none,none,none,none,none,none,some (2,103),none,none,none,none] [(0,12,.t 49)]),iA 51 (.app 28 12 112 (.t 48) (.t 50)),iA 4 (iM 51)] (.reg [iA 52 (iM 7),iA 53 (iM 9),iA 54 (.call 40 [.t 53]),iA 55 (.len true (.t 54)),iA 56 (iP .add 3 52 55),iA 7 (iM 56)])))))) (.reg [iA 57 (iQ .add 3 19 1),iA 19 (iM 57)]))))))) (iS [iA 58 (iM 4),iA 59 (iM 7),iA 2 (iM 58),iA 3 (iM 59)] .ret)))))
theorem jdy:fnC Try.prog Try.f13=some (jby,[.t 2,.t 3],60):=by kernel_rfl
def jbs:C:=iS [iA 2 (.mov (.c (.slice none 0 0))),iA 3 (iN 0)] (iS [iA 11 (.bsl 28 12 0 [] []),iA 4 (iM 11)] (iS [iA 13 (iM 0),iA 14 (.call 37 [.t 13]),iA 12 (iM 14),iA 15 (iE 12 0),iA 16 (iE 12 1),iA 5 (iM 15),iA 6 (iM 16)] (iS [iA 7 (iN 0)] (.seq (iS [iA 8 (iN 0)] (.blk 0 (.loop (.seq (iS [iA 17 (iM 8),iA 18 (iM 5),iA 19 (iG 18),iA 20 (iP .lss 3 17 19)] (iD 20 .skip (.exit 0))) (.seq (.blk 1 (iS [iA 24 (iM 5),iA 25 (iM 8),iA 26 (iI 1 24 25),iA 27 (iL 26),iA 28 (.call 7 [.t 27]),iA 23 (iM 28),iA 29 (iE 23 0),iA 30 (iE 23 1),iA 9 (.alloc 28 [.int .i64 0,.int .i64 0,.int .i64 0,.int .i64 0,.int .i64 0,.int .i64 0,.int .i64 0,.slice none 0 0,.int .i64 0,.int .i64 0,.int .i64 0,.int .i64 0]),iC (.st 12 [none,none,none,none,none,none,none,some (2,103),none,none,none,none] (.t 9) (.t 29)),iA 10 (iM 30)] (.seq (.seq (.dreg (T.pure 0 (iA 31 (iM 10)) (T.pure 1 (iA 32 (iU 31)) (T.pure 2 (iA 33 (iM 32)) (T.pure 3 (iB 34 33 false (iM 8)) (T.pure 4 (iB 35 33 false (iQ .gtr 3 34 0)) (T.pure 5 (iB 36 33 false (iM 35)) (T.pure 6 (iB 37 36 true (iF 0 9)) (T.pure 7 (iB 38 36 true (iL 37)) (T.pure 8 (iB 39 36 true (iM 4)) (T.pure 9 (iB 40 36 true (iM 8)) (T.pure 10 (iB 41 36 true (iQ .sub 3 40 1)) (T.pure 11 (iB 42 36 true (iI 12 39 41)) (T.pure 12 (iB 43 36 true (iF 0 42)) (T.pure 13 (iB 44 36 true (iL 43)) (T.pure 14 (iB 45 36 true (iQ .add 3 44 1)) (T.pure 15 (iB 46 36 true (iP .neq 3 38 45)) (T.pure 16 (iB 47 33 false (.pick (.t 36) (.t 46) (.c (.bool false)))) (T.pure 17 (iA 48 (.pick (.t 33) (.c (.bool true)) (.t 47))) T.done))))))))))))))))))) (iD 48 (.exit 0) .skip)) (iS [iA 49 (iM 4),iA 50 (iT 12 9),iA 51 (.bsl 28 12 1 [none,none,none,none,none,none,none,some (2,103),none,none,none,none] [(0,12,.t 50)]),iA 52 (.app 28 12 112 (.t 49) (.t 51)),iA 4 (iM 52)] (.reg [iA 53 (iM 7),iA 54 (iM 5),iA 55 (iM 8),iA 56 (iI 1 54 55),iA 57 (iL 56),iA 58 (.call 38 [.t 57]),iA 59 (.len true (.t 58)),iA 60 (iP .add 3 53 59),iA 7 (iM 60)]))))) (.reg [iA 21 (iM 8),iA 22 (iQ .add 3 21 1),iA 8 (iM 22)])))))) (iS [iA 61 (iM 4),iA 62 (iM 7),iA 2 (iM 61),iA 3 (iM 62)] .ret)))))
theorem jds:fnC Try.prog Try.f12=some (jbs,[.t 2,.t 3],63):=by kernel_rfl
theorem jfQ (t:ByteArray) (ht:t.size≤1048576):kg Try.prog 12 [.c (.val (.string t))] (.tup [(false,[ke (vA t).1]),(false,[.val (.int .i64 ((vA t).2:Nat))])]):=by
 refine jr Try.func12 jds (by simp) ?_
 unfold jbs;obtain ⟨hsz,hcl⟩:=jeO t ht;unfold vA;simp only [go_sem];intro η11;refine jb (jgR t ht) (by simp only [go_sem]) fun η14=>?_
 simp only [go_sem];generalize (zC t).1=bs at*;refine jp (fun i:(List Nt×Nat×Nat)×jm=>St.of [(4,Hd 4 i.2),(5,Hd 5 (η14 0)),(7,Ni i.1.2.2),(8,Ni i.1.2.1)] [(4,.loose (ke i.1.1) i.2),(5,.loose (kx bs) (η14 0))]) (fun i=>NiTo bs i.1.2.1 i.1.1 i.1.2.2) (fun i=>bs.length-i.1.2.1) (([],0,0),η11) (NiTo.start bs) (jo [some 1100,some 1400] (by simp only [go_sem,jgo]<;>and_intros<;>first|rfl|assumption|trivial)) ?_
 rintro ⟨⟨l,k,z⟩,η⟩ hi;dsimp only at hi;by_cases hlt:k<bs.length;rotate_left
 ·have hlt':¬(k:Int)<bs.length:=by omega
  rw [hi.done hlt];simp only [go_sem,hlt'];exact jap (g:=4) (c:=0) (d:=ke l) (η:=η) (x:=η []) (by simp only [go_sem]) (by simp only [go_sem]) rfl (by simp only [go_sem])
 have hlt':(k:Int)<bs.length:=by omega
 obtain ⟨b,hb⟩:=jg hlt;have hbz:=hsz b (List.mem_of_getElem? hb);have hw:IntKind.i64.wrap ((k:Int)+1)=((k+1:Nat):Int):=ji (by omega) (by omega)
 have hlen:=hi.len;have hzz:=hi.sz;have hfz:=jff b;have hwz:IntKind.i64.wrap ((z:Int)+((kU b).size:Int))=((z+(kU b).size:Nat):Int):=ji (by omega) (by omega)
 have hm1:k+1≤maxLen:=by unfold maxLen;omega
 have hm2:(k+1)*112≤140737488355328:=by omega
 have hk0:(k:Int)≥0:=by omega
 simp only [go_sem,hlt',hlt,hk0,Nat.mul_one,jdE hb,jdi hb];refine jb (zQ b (by omega)) (by simp only [go_sem,jq,je,ja]) fun ηn=>?_
 simp only [go_sem,jq,je,ja];intro b9;cases hok:(kF b).2
 ·rw [hi.stop hb (.inl hok)]
  simp only [go_sem,hok];exact jap (g:=4) (c:=0) (d:=ke l) (η:=η) (x:=η []) (by simp only [go_sem]) (by simp only [go_sem]) rfl (by simp only [go_sem])
 have hnx:=fun h=>hi.next hb hok h
 have hst:=fun h=>hi.stop hb (.inr h)
 have hsq:=jcc hok;generalize (kF b).1=n at*;rcases k with _|k
 ·obtain rfl:l=[]:=List.eq_nil_of_length_eq_zero hlen
  have h00:¬((0:Nat):Int)>0:=by omega
  have hb0:((bs.flatMap fun b=>[D.val (.string b)]).take 1)=[D.val (.string b)]:=by simpa using jdE hb
  have hb1:1≤(bs.flatMap fun b=>[D.val (.string b)]).length:=by simpa using jdi hb
  have hsn:=jdb [] n;rw [List.flatMap_nil,List.nil_append] at hsn;simp only [go_sem,hok,h00,List.flatMap_nil,List.length_nil,hm1,hm2,hlt,hb0,hb1,hsn];intro η1 η2;refine jb (jbe b) (by simp only [go_sem]) fun η=>?_
  simp only [go_sem];simp only [go_sem,hw,hwz];exact ⟨(([]++[n],0+1,z+(kU b).size),η2),hnx rfl,(jo [some 5200,some 5] (by simp only [go_sem,jdb,hw,hwz]<;>and_intros<;>first|rfl|assumption|trivial)),by (try dsimp only);omega⟩
 ·obtain ⟨m,hm⟩:=jg (show k<l.length by omega)
  have hfo:=jq2 hlen hm n;have hms:=hi.ok m (List.mem_of_getElem? hm);have hkp:(((k+1:Nat):Int))>0:=by omega
  have hw1:IntKind.i64.wrap (((k+1:Nat):Int)-1)=(k:Int):=by rw [ji (by omega) (by omega)];omega
  have hk1:(k:Int)≥0:=by omega
  have hkl:k<l.length:=by omega
  have hwq:IntKind.i64.wrap (m.seq+1)=m.seq+1:=ji (by omega) (by omega)
  cases hf:n.seq !=m.seq+1
  ·have hf2:jd3 l n=true:=by rw [hfo];simpa using hf
   simp only [go_sem,hok,hkp,hw1,hk1,hkl,Nat.add_zero,jkY hm,jkC hm,hwq,hf,hlen,hm1,hm2,hlt,hk0,Nat.mul_one,jdE hb,jdi hb];intro η1 η2;refine jb (jbe b) (by simp only [go_sem]) fun η=>?_
   simp only [go_sem];simp only [go_sem,hw,hwz];exact ⟨((l++[n],k+1+1,z+(kU b).size),η2),hnx hf2,(jo [some 5200,some 5] (by simp only [go_sem,jdb,hw,hwz]<;>and_intros<;>first|rfl|assumption|trivial)),by (try dsimp only);omega⟩
  ·have hf2:jd3 l n=false:=by rw [hfo];simpa using hf
   rw [hst hf2];simp only [go_sem,hok,hlen,hkp,hw1,hk1,hkl,Nat.lt_add_one,Nat.add_zero,jkY hm,jkC hm,hwq,hf];exact jap (g:=4) (c:=0) (d:=ke l) (η:=η) (x:=η []) (by simp only [go_sem]) (by simp only [go_sem]) rfl (by simp only [go_sem])
theorem jfV (t:ByteArray) (ht:t.size≤1048576):kg Try.prog 13 [.c (.val (.string t))] (.tup [(false,[ke (vA t).1]),(false,[.val (.int .i64 ((vA t).2:Nat))])]):=by
 refine jr Try.func13 jdy (by simp) ?_
 unfold jby;obtain ⟨hsz,hcl⟩:=jeO t ht;unfold vA;simp only [go_sem];refine jb (jgX t ht) (by simp only [go_sem]) fun η14=>?_
 simp only [go_sem];generalize (zC t).1=bs at*;refine jp (fun i:(List Nt×Nat×Nat)×jm=>St.of [(4,Hd 4 i.2),(7,Ni i.1.2.2),(17,Hd 17 (η14 0)),(18,Ni bs.length),(19,Ni i.1.2.1)] [(4,.loose (ke i.1.1) i.2),(17,.loose (kx bs) (η14 0))]) (fun i=>NiTo bs i.1.2.1 i.1.1 i.1.2.2) (fun i=>bs.length-i.1.2.1) (([],0,0),jad) (NiTo.start bs) (jo [none,some 1400] (by simp only [go_sem,jgo]<;>and_intros<;>first|rfl|assumption|trivial)) ?_
 rintro ⟨⟨l,k,z⟩,η⟩ hi;dsimp only at hi;by_cases hlt:k<bs.length;rotate_left
 ·have hlt':¬(k:Int)<bs.length:=by omega
  rw [hi.done hlt];simp only [go_sem,hlt'];exact jap (g:=4) (c:=0) (d:=ke l) (η:=η) (x:=η []) (by simp only [go_sem]) (by simp only [go_sem]) rfl (by simp only [go_sem])
 have hlt':(k:Int)<bs.length:=by omega
 obtain ⟨b,hb⟩:=jg hlt;have hbz:=hsz b (List.mem_of_getElem? hb);have hw:IntKind.i64.wrap ((k:Int)+1)=((k+1:Nat):Int):=ji (by omega) (by omega)
 have hlen:=hi.len;have hzz:=hi.sz;have hfz:=jff b;have hwz:IntKind.i64.wrap ((z:Int)+((kU b).size:Int))=((z+(kU b).size:Nat):Int):=ji (by omega) (by omega)
 have hm1:k+1≤maxLen:=by unfold maxLen;omega
 have hm2:(k+1)*112≤140737488355328:=by omega
 have hk0:(k:Int)≥0:=by omega
 simp only [go_sem,hlt',hlt,hk0,Nat.mul_one,jdE hb,jdi hb];refine jb (zR b (by omega)) (by simp only [go_sem,jq,je,ja]) fun ηn=>?_
 simp only [go_sem,jq,je,ja];intro b10;cases hok:(kF b).2
 ·rw [hi.stop hb (.inl hok)]
  simp only [go_sem,hok];exact jap (g:=4) (c:=0) (d:=ke l) (η:=η) (x:=η []) (by simp only [go_sem]) (by simp only [go_sem]) rfl (by simp only [go_sem])
 have hnx:=fun h=>hi.next hb hok h
 have hst:=fun h=>hi.stop hb (.inr h)
 have hsq:=jcc hok;generalize (kF b).1=n at*;rcases k with _|k
 ·obtain rfl:l=[]:=List.eq_nil_of_length_eq_zero hlen
  have h00:¬((0:Nat):Int)>0:=by omega
  have hb0:((bs.flatMap fun b=>[D.val (.string b)]).take 1)=[D.val (.string b)]:=by simpa using jdE hb
  have hb1:1≤(bs.flatMap fun b=>[D.val (.string b)]).length:=by simpa using jdi hb
  have hsn:=jdb [] n;rw [List.flatMap_nil,List.nil_append] at hsn;simp only [go_sem,hok,h00,List.flatMap_nil,List.length_nil,hm1,hm2,hlt,hb0,hb1,hsn];intro η1 η2;refine jb (jbf b (by omega)) (by simp only [go_sem]) fun η=>?_
  simp only [go_sem];simp only [go_sem,hw,hwz];exact ⟨(([]++[n],0+1,z+(kU b).size),η2),hnx rfl,(jo [some 5100,some 17] (by simp only [go_sem,jdb,hw,hwz]<;>and_intros<;>first|rfl|assumption|trivial)),by (try dsimp only);omega⟩
 ·obtain ⟨m,hm⟩:=jg (show k<l.length by omega)
  have hfo:=jq2 hlen hm n;have hms:=hi.ok m (List.mem_of_getElem? hm);have hkp:(((k+1:Nat):Int))>0:=by omega
  have hw1:IntKind.i64.wrap (((k+1:Nat):Int)-1)=(k:Int):=by rw [ji (by omega) (by omega)];omega
  have hk1:(k:Int)≥0:=by omega
  have hkl:k<l.length:=by omega
  have hwq:IntKind.i64.wrap (m.seq+1)=m.seq+1:=ji (by omega) (by omega)
  cases hf:n.seq !=m.seq+1
  ·have hf2:jd3 l n=true:=by rw [hfo];simpa using hf
   simp only [go_sem,hok,hkp,hw1,hk1,hkl,Nat.add_zero,jkY hm,jkC hm,hwq,hf,hlen,hm1,hm2,hlt,hk0,Nat.mul_one,jdE hb,jdi hb];intro η1 η2;refine jb (jbf b (by omega)) (by simp only [go_sem]) fun η=>?_
   simp only [go_sem];simp only [go_sem,hw,hwz];exact ⟨((l++[n],k+1+1,z+(kU b).size),η2),hnx hf2,(jo [some 5100,some 17] (by simp only [go_sem,jdb,hw,hwz]<;>and_intros<;>first|rfl|assumption|trivial)),by (try dsimp only);omega⟩
  ·have hf2:jd3 l n=false:=by rw [hfo];simpa using hf
   rw [hst hf2];simp only [go_sem,hok,hlen,hkp,hw1,hk1,hkl,Nat.lt_add_one,Nat.add_zero,jkY hm,jkC hm,hwq,hf];exact jap (g:=4) (c:=0) (d:=ke l) (η:=η) (x:=η []) (by simp only [go_sem]) (by simp only [go_sem]) rfl (by simp only [go_sem])
theorem jnJ (t:ByteArray):zz (kF t).1≤31:=by
 cases h:(kF t).2 with
 |true=>exact (jcc h).2.2
 |false=>
  unfold kF at h⊢;split
  ·rename_i hx;rw [dif_pos hx] at h;cases h
  ·decide
theorem jib {bs:List ByteArray}:∀(d k z:Nat) (l:List Nt),bs.length-k≤d→NiTo bs k l z→∃k',NiTo bs k' (zT (bs.drop k) (l,z)).1 (zT (bs.drop k) (l,z)).2
 |d,k,z,l,hd,h=>by
  by_cases hk:k<bs.length
  ·obtain ⟨b,hb⟩:=jg hk
   have he:bs.drop k=b::bs.drop (k+1):=by
    obtain ⟨hk,rfl⟩:=List.getElem?_eq_some_iff.1 hb;exact List.drop_eq_getElem_cons hk
   by_cases hc:(kF b).2=false∨jd3 l (kF b).1=false
   ·rw [he,zT,if_pos hc];exact ⟨k,h⟩
   ·rw [he,zT,if_neg hc]
    have h1:(kF b).2=true:=by cases hx:(kF b).2 with|true=>rfl|false=>exact absurd (.inl hx) hc
    have h2:jd3 l (kF b).1=true:=by cases hx:jd3 l (kF b).1 with|true=>rfl|false=>exact absurd (.inr hx) hc
    obtain ⟨d,rfl⟩:∃e,d=e+1:=⟨d-1,by omega⟩
    exact jib d (k+1) _ _ (by omega) (h.next hb h1 h2)
  ·rw [List.drop_eq_nil_of_le (by omega)];exact ⟨k,h⟩
theorem jjr (t:ByteArray) (ht:t.size≤1048576):jf6 (vA t).1≤400000:=by
 obtain ⟨k',h⟩:=jib (bs:=(zC t).1) _ 0 0 [] (Nat.le_refl _) (.start _);have h1:=(jeO t ht).2;rw [List.drop_zero] at h;have h2:=h.le;have h3:=h.len
 have h4:∀l:List Nt,(∀n∈l,0≤n.seq∧n.seq≤1000000000∧zz n≤31)→jP zz l≤31*l.length:=by
  intro l
  induction l with
  |nil=>intro _;exact Nat.le_refl _
  |cons a l ih=>
   intro ha;have g1:=ih fun n hn=>ha n (by simp [hn])
   have g2:=(ha a (by simp)).2.2
   simp only [jP,List.map_cons,List.sum_cons,List.length_cons] at g1⊢;omega
 have h5:=h4 _ h.ok;unfold vA;simp only [jf6];omega
end Go.Proofs.Ytmnpailnelmpiaa
