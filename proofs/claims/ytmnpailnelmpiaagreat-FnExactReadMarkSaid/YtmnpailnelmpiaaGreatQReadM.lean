/- Parts. -/
import Derived.Test.YtmnpailnelmpiaaGreatQFourAt
import Derived.Test.YtmnpailnelmpiaaGreatQMarkTx
import Derived.Test.YtmnpailnelmpiaaGreatQReadI
import Derived.Test.YtmnpailnelmpiaaGreatQReadS
set_option linter.unusedSimpArgs false
set_option linter.unusedVariables false
set_option maxHeartbeats 4000000
set_option maxRecDepth 100000
namespace Go.Proofs.YtmnpailnelmpiaaGreat
open Go.RowKit Go.Sort
theorem jnH {t:ByteArray} {k:Nat} (h:k+4≤t.size):∃a b c d:UInt8,(t.data.toList.drop k).take 4=[a,b,c,d]∧t[k]?=some a∧t[k+1]?=some b∧t[k+2]?=some c∧t[k+3]?=some d:=by
 have hl:(t.data.toList.drop k).length=t.size-k:=by rw [List.length_drop,Array.length_toList];rfl
 rcases hd:t.data.toList.drop k with _|⟨a,_|⟨b,_|⟨c,_|⟨d,r⟩⟩⟩⟩<;>rw [hd] at hl<;>simp at hl
 all_goals first|omega|skip
 refine ⟨a,b,c,d,by simp,?_,jb0 (i:=1) (by rw [hd];rfl),jb0 (i:=2) (by rw [hd];rfl),jb0 (i:=3) (by rw [hd];rfl)⟩
 exact jb0 (i:=0) (by rw [hd];rfl)
def jgT:C:=iS [iA 4 (iN 0),iA 5 (iO false)] (.seq (iS [iA 6 (iM 1),iA 7 (iQ .lss 3 6 0),iA 8 (iM 7),iB 9 8 false (iM 1),iB 10 8 false (iM 0),iB 11 8 false (.len true (.t 10)),iB 12 8 false (iQ .sub 3 11 4),iB 13 8 false (iP .gtr 3 9 12),iA 14 (.pick (.t 8) (.c (.bool true)) (.t 13))] (iD 14 (iS [iA 4 (iN 0),iA 5 (iO false)] .ret) .skip)) (.seq (.dreg (T.pure 0 (iA 15 (iM 0)) (T.pure 1 (iA 16 (iM 1)) (T.pure 2 (iA 17 (.sidx (.t 15) (.t 16))) (T.pure 3 (iA 18 (.cv (.num .i64) 0 (.t 17))) (T.pure 4 (iA 19 (iQ .mul 3 18 16777216)) (T.pure 5 (iA 20 (iM 0)) (T.pure 6 (iA 21 (iM 1)) (T.pure 7 (iA 22 (iQ .add 3 21 1)) (T.pure 8 (iA 23 (.sidx (.t 20) (.t 22))) (T.pure 9 (iA 24 (.cv (.num .i64) 0 (.t 23))) (T.pure 10 (iA 25 (iQ .mul 3 24 65536)) (T.pure 11 (iA 26 (iP .add 3 19 25)) (T.pure 12 (iA 27 (iM 0)) (T.pure 13 (iA 28 (iM 1)) (T.pure 14 (iA 29 (iQ .add 3 28 2)) (T.pure 15 (iA 30 (.sidx (.t 27) (.t 29))) (T.pure 16 (iA 31 (.cv (.num .i64) 0 (.t 30))) (T.pure 17 (iA 32 (iQ .mul 3 31 256)) (T.pure 18 (iA 33 (iP .add 3 26 32)) (T.pure 19 (iA 34 (iM 0)) (T.pure 20 (iA 35 (iM 1)) (T.pure 21 (iA 36 (iQ .add 3 35 3)) (T.pure 22 (iA 37 (.sidx (.t 34) (.t 36))) (T.pure 23 (iA 38 (.cv (.num .i64) 0 (.t 37))) (T.pure 24 (iA 39 (iP .add 3 33 38)) (T.pure 25 (iA 4 (iM 39)) (T.pure 26 (iA 5 (iO true)) T.done)))))))))))))))))))))))))))) .ret))
theorem jjb:fnC Tryz.prog Tryz.f88=some (jgT,[.t 4,.t 5],40):=by kernel_rfl
theorem jfY (t:ByteArray) (k:Nat) (hs:t.size≤1000000000) (hk1:k≤1000000000):jZ Tryz.prog 88 [.c (.val (.string t)),.c (.val (.int .i64 (k:Int)))] (.tup [(false,[.val (.int .i64 (ki t k).1)]),(false,[.val (.bool (ki t k).2)])]):=by
 refine jr Tryz.func88 jjb (by simp) ?_
 unfold jgT;have hneg:¬(k:Int)<0:=by omega
 have hw4:IntKind.i64.wrap ((t.size:Int)-4)=(t.size:Int)-4:=jj (by omega) (by omega)
 by_cases hin:(t.size:Int)-4<(k:Int)
 ·have hf:ki t (k:Int)=(0,false):=by rw [ki,if_neg (by omega)]
  rw [hf];simp only [go_sem,hneg,hw4,hin];exact jbJ _ _ _ _ (by simp only [go_sem]) (by simp only [go_sem])
 ·have hf:ki t (k:Int)=(zD ((t.data.toList.drop k).take 4),true):=by rw [ki,if_pos (by omega),Int.toNat_natCast]
  obtain ⟨a,b,c,d,hB,ha,hb,hc,hd⟩:=jnH (t:=t) (k:=k) (by omega)
  have hv:zD [a,b,c,d]=(a.toNat:Int)*16777216+(b.toNat:Int)*65536+(c.toNat:Int)*256+(d.toNat:Int):=by simp only [zD,List.foldl];omega
  rw [hf,hB,hv];have la:=UInt8.toNat_lt a;have lb:=UInt8.toNat_lt b;have lc:=UInt8.toNat_lt c;have ld:=UInt8.toNat_lt d;have w1:IntKind.i64.wrap ((a.toNat:Int)*16777216)=(a.toNat:Int)*16777216:=jj (by omega) (by omega)
  have w2:IntKind.i64.wrap ((b.toNat:Int)*65536)=(b.toNat:Int)*65536:=jj (by omega) (by omega)
  have w3:IntKind.i64.wrap ((c.toNat:Int)*256)=(c.toNat:Int)*256:=jj (by omega) (by omega)
  have w4:IntKind.i64.wrap ((a.toNat:Int)*16777216+(b.toNat:Int)*65536)=(a.toNat:Int)*16777216+(b.toNat:Int)*65536:=jj (by omega) (by omega)
  have w5:IntKind.i64.wrap ((a.toNat:Int)*16777216+(b.toNat:Int)*65536+(c.toNat:Int)*256)=(a.toNat:Int)*16777216+(b.toNat:Int)*65536+(c.toNat:Int)*256:=jj (by omega) (by omega)
  have w6:IntKind.i64.wrap ((a.toNat:Int)*16777216+(b.toNat:Int)*65536+(c.toNat:Int)*256+(d.toNat:Int))=(a.toNat:Int)*16777216+(b.toNat:Int)*65536+(c.toNat:Int)*256+(d.toNat:Int):=jj (by omega) (by omega)
  have k1:IntKind.i64.wrap ((k:Int)+1)=((k+1:Nat):Int):=jj (by omega) (by omega)
  have k2:IntKind.i64.wrap ((k:Int)+2)=((k+2:Nat):Int):=jj (by omega) (by omega)
  have k3:IntKind.i64.wrap ((k:Int)+3)=((k+3:Nat):Int):=jj (by omega) (by omega)
  simp only [go_sem,hneg,hw4,hin,Int.toNat_natCast,ha,hb,hc,hd,jxt,w1,w2,w3,w4,w5,w6,k1,k2,k3];refine ⟨a,rfl,b,rfl,c,rfl,d,rfl,?_⟩;exact jbJ _ _ _ _ (by simp only [go_sem,w1,w2,w3,w4,w5,w6]) (by simp only [go_sem])
theorem jal (n:Nat):jlf (n:Int)=UInt8.ofNat (n%256):=by
 have e:((n:Int)%256).toNat=n%256:=by omega
 unfold jlf;rw [e]
theorem jkG (a b c d:UInt8):jnJ (zD [a,b,c,d])=[a,b,c,d]:=by
 have la:=UInt8.toNat_lt a;have lb:=UInt8.toNat_lt b;have lc:=UInt8.toNat_lt c;have ld:=UInt8.toNat_lt d;have hv:zD [a,b,c,d]=((a.toNat*16777216+b.toNat*65536+c.toNat*256+d.toNat:Nat):Int):=by simp only [zD,List.foldl];omega
 have e1:((a.toNat*16777216+b.toNat*65536+c.toNat*256+d.toNat:Nat):Int)/16777216=((a.toNat:Nat):Int):=by omega
 have e2:((a.toNat*16777216+b.toNat*65536+c.toNat*256+d.toNat:Nat):Int)/65536=((a.toNat*256+b.toNat:Nat):Int):=by omega
 have e3:((a.toNat*16777216+b.toNat*65536+c.toNat*256+d.toNat:Nat):Int)/256=((a.toNat*65536+b.toNat*256+c.toNat:Nat):Int):=by omega
 rw [hv,jnJ,e1,e2,e3,jal,jal,jal,jal];have h1:a.toNat%256=a.toNat:=by omega
 have h2:(a.toNat*256+b.toNat)%256=b.toNat:=by omega
 have h3:(a.toNat*65536+b.toNat*256+c.toNat)%256=c.toNat:=by omega
 have h4:(a.toNat*16777216+b.toNat*65536+c.toNat*256+d.toNat)%256=d.toNat:=by
  rw [show a.toNat*16777216+b.toNat*65536+c.toNat*256+d.toNat=d.toNat+256*(a.toNat*65536+b.toNat*256+c.toNat) by clear hv e1 e2 e3;omega,Nat.add_mul_mod_self_left]
  exact Nat.mod_eq_of_lt ld
 rw [h1,h2,h3,h4];simp
theorem jwY {v:Int} (h:0≤v∧v<4294967296):zD (jnJ v)=v:=by
 obtain ⟨n,rfl⟩:=Int.eq_ofNat_of_zero_le h.1;have e1:(n:Int)/16777216=((n/16777216:Nat):Int):=by omega
 have e2:(n:Int)/65536=((n/65536:Nat):Int):=by omega
 have e3:(n:Int)/256=((n/256:Nat):Int):=by omega
 rw [jnJ,e1,e2,e3,jal,jal,jal,jal];simp only [zD,List.foldl];have t:∀m:Nat,(UInt8.ofNat (m%256)).toNat=m%256:=fun m=>by simp
 rw [t,t,t,t];omega
noncomputable def jc9 (t:ByteArray):Yd×Int×Bool:=
 if (ki t 0).2=false∨t.size<8 then (ydZ,0,false)
 else if (vH (t.extract 8 t.size)).2=false∨jf3 (ki t 0).1 (vH (t.extract 8 t.size)).1≠t then (ydZ,0,false)
 else ((vH (t.extract 8 t.size)).1,(ki t 0).1,true)
noncomputable def zB (t:ByteArray):Yd×Int×Bool:=
 if (ki t 0).2=false∨(ki t 4).2=false∨zo (ki t 0).1=false∨60000<t.size∨jl1 (t.extract 8 t.size)≠(ki t 4).1 then (ydZ,0,false)
 else if (vH (t.extract 8 t.size)).2=false then (ydZ,0,false)
 else ((vH (t.extract 8 t.size)).1,(ki t 0).1,true)
theorem jrs {t:ByteArray} (h:(vH t).2=true):jpW t (vH t).1:=by
 unfold vH at h⊢;split
 ·rename_i hx;exact hx.choose_spec
 ·rename_i hx;rw [dif_neg hx] at h;cases h
theorem jzh {t:ByteArray} {y:Yd} (h:jpW t y):zr y=t∧t.size≠0:=by
 have h1:zr y=t:=by rw [zr,if_pos (jaC h.ok)];exact h.txt.symm
 refine ⟨h1,?_⟩;rw [h.txt,jhm,jbs,List.cons_append,List.cons_append,jaL];obtain ⟨v,e1,e2,e3⟩:=jmF (h.nums y.now (by simp [jbs]))
 rw [e3,List.length_append];have:=List.length_pos_iff.2 (je9 v);omega
theorem jAi {a b:ByteArray} (h:a.data.toList=b.data.toList):a=b:=by
 cases a;cases b;congr 1;exact Array.toList_inj.1 h
theorem jsI (a b:ByteArray):(a++b).data.toList=a.data.toList++b.data.toList:=by simp
theorem jnI {v:Int} (h:0≤v∧v<4294967296):(jcc v).data.toList=jnJ v:=by rw [jcc,if_pos (by omega)]
theorem jCp (t:ByteArray):jc9 t=zB t:=by
 unfold jc9 zB;by_cases h8:t.size<8
 ·rw [if_pos (.inr h8)]
  have:(ki t 4).2=false:=by rw [ki,if_neg (by omega)]
  rw [if_pos (.inr (.inl this))]
 have h0:ki t 0=(zD ((t.data.toList.drop 0).take 4),true):=by rw [ki,if_pos (by omega)];rfl
 have h4:ki t 4=(zD ((t.data.toList.drop 4).take 4),true):=by rw [ki,if_pos (by omega)];rfl
 obtain ⟨a,b,c,d,hB,-⟩:=jnH (t:=t) (k:=0) (by omega)
 obtain ⟨a',b',c',d',hB',-⟩:=jnH (t:=t) (k:=4) (by omega)
 have hq:=jq5 [a,b,c,d] (by simp)
 have hq':=jq5 [a',b',c',d'] (by simp)
 rw [h0,h4,hB,hB'];generalize hu:t.extract 8 t.size=u
 have hul:u.data.toList=t.data.toList.drop 8:=by
  rw [←hu,ByteArray.data_extract,Array.toList_extract,List.extract_eq_take_drop,List.take_of_length_le];rw [List.length_drop,Array.length_toList];exact Nat.le_refl _
 have hut:t.data.toList=[a,b,c,d]++([a',b',c',d']++u.data.toList):=by
  rw [hul];have e1:t.data.toList=t.data.toList.take 4++t.data.toList.drop 4:=(List.take_append_drop _ _).symm;have e2:t.data.toList.drop 4=(t.data.toList.drop 4).take 4++(t.data.toList.drop 4).drop 4:=(List.take_append_drop _ _).symm;rw [List.drop_zero] at hB;rw [hB'] at e2;rw [List.drop_drop] at e2;rw [hB] at e1;rw [←e2,←e1]
 have hsz:t.size=8+u.size:=by
  have h1:t.data.toList.length=t.size:=by rw [Array.length_toList];rfl
  have h2:u.data.toList.length=u.size:=by rw [Array.length_toList];rfl
  rw [←h1,←h2,hut];simp;omega
 by_cases hg:(vH u).2=false
 ·rw [if_neg (by simp;omega),if_pos (.inl hg)]
  split
  ·rfl
  ·first|rfl|rw [if_pos hg]
 have hg':(vH u).2=true:=by cases h:(vH u).2 with|true=>rfl|false=>exact absurd h hg
 have hot:=jrs hg';obtain ⟨hys,hyz⟩:=jzh hot;have hyl:=jmD (vH u).1;rw [hys] at hyl;have hsum:=jAr u;rw [if_neg (by simp;omega)]
 by_cases hc:zo (zD [a,b,c,d])=true∧jl1 u=zD [a',b',c',d']
 ·obtain ⟨hc1,hc2⟩:=hc
  have hn:=of_decide_eq_true hc1
  have hm:jf3 (zD [a,b,c,d]) (vH u).1=t:=by
   rw [jf3,hys,if_pos ⟨by omega,hyz,by omega⟩]
   refine jAi ?_;rw [jsI,jsI,jnI hq,jnI hsum,hc2,jkG,jkG,hut,List.append_assoc]
  rw [if_neg,if_neg,if_neg hg]
  ·rintro (h|h|h|h|h)
   ·cases h
   ·cases h
   ·rw [hc1] at h;cases h
   ·omega
   ·exact h hc2
  ·rintro (h|h)
   ·exact hg h
   ·exact h hm
 ·have hm:jf3 (zD [a,b,c,d]) (vH u).1≠t:=by
   intro hm;rw [jf3,hys] at hm;split at hm
   ·rename_i h
    refine hc ⟨decide_eq_true h.1,?_⟩;have h1:(jcc (zD [a,b,c,d])++jcc (jl1 u)++u).data.toList=t.data.toList:=by rw [hm]
    rw [jsI,jsI,jnI hq,jnI hsum,jkG,hut,List.append_assoc] at h1;have h2:=(List.append_cancel_left h1);have h3:jnJ (jl1 u)=[a',b',c',d']:=(List.append_inj h2 rfl).1;rw [←h3,jwY hsum]
   ·have h1:(0:Nat)=t.size:=congrArg ByteArray.size hm
    omega
  rw [if_pos (.inr hm),if_pos];by_cases hc1:zo (zD [a,b,c,d])=true
  ·exact .inr (.inr (.inr (.inr fun h=>hc ⟨hc1,h⟩)))
  ·exact .inr (.inr (.inl (by cases h:zo (zD [a,b,c,d]) with|true=>exact absurd h hc1|false=>rfl)))
theorem jjS (t:ByteArray):jt (vH t).1≤700:=by
 cases h:(vH t).2 with
 |true=>exact (jrs h).ok.small
 |false=>
  unfold vH at h⊢;split
  ·rename_i hx;rw [dif_pos hx] at h;cases h
  ·decide
theorem jtP (t:ByteArray):jt (zB t).1≤700:=by
 unfold zB
 repeat' split
 ·decide
 ·decide
 ·exact jjS _
theorem jiT (t:ByteArray) (ht:t.size≤1048576):jZ Tryz.prog 91 [.c (.val (.string t))] (.tup [(true,jb (vH t).1),(false,[.val (.bool (vH t).2)])]):=by
 rw [←jvZ];exact jkg t ht
theorem jiV (t:ByteArray) (ht:t.size≤1048576):jZ Tryz.prog 93 [.c (.val (.string t))] (.tup [(true,jb (vH t).1),(false,[.val (.bool (vH t).2)])]):=by
 rw [←jv0];exact jkl t ht
def jdI:C:=iS [iA 2 (.alloc 37 [.int .i64 0,.int .i64 0,.slice none 0 0,.slice none 0 0]),iA 3 (iN 0),iA 4 (iO false)] (iS [iA 9 (iM 0),iA 10 (.call 92 [.t 9,.c (.int .i64 0)]),iA 8 (iM 10),iA 11 (iE 8 0),iA 12 (iE 8 1),iA 5 (iM 11),iA 6 (iM 12)] (.seq (iS [iA 13 (iM 6),iA 14 (iU 13),iA 15 (iM 14),iB 16 15 false (iM 0),iB 17 15 false (.len true (.t 16)),iB 18 15 false (iQ .lss 3 17 8),iA 19 (.pick (.t 15) (.c (.bool true)) (.t 18))] (iD 19 (iS [iA 20 (.bld [.int .i64 0,.int .i64 0,.slice none 0 0,.slice none 0 0] []),iC (.st 4 [none,none,some (1,102),some (8,108)] (.t 2) (.t 20)),iA 3 (iN 0),iA 4 (iO false)] .ret) .skip)) (iS [iA 22 (iM 0),iA 23 (.sl 0 (.t 22) (some (.c (.int .i64 8))) none),iA 24 (.call 93 [.t 23]),iA 21 (iM 24),iA 25 (iE 21 0),iA 26 (iE 21 1),iA 7 (.alloc 37 [.int .i64 0,.int .i64 0,.slice none 0 0,.slice none 0 0]),iC (.st 4 [none,none,some (1,102),some (8,108)] (.t 7) (.t 25)),iA 6 (iM 26)] (.seq (iS [iA 27 (iM 6),iA 28 (iU 27),iA 29 (iM 28),iB 30 29 false (iM 5),iB 31 29 false (iT 4 7),iB 32 29 false (.call 94 [.t 30,.t 31]),iB 33 29 false (iM 0),iB 34 29 false (iP .neq 9 32 33),iA 35 (.pick (.t 29) (.c (.bool true)) (.t 34))] (iD 35 (iS [iA 36 (.bld [.int .i64 0,.int .i64 0,.slice none 0 0,.slice none 0 0] []),iC (.st 4 [none,none,some (1,102),some (8,108)] (.t 2) (.t 36)),iA 3 (iN 0),iA 4 (iO false)] .ret) .skip)) (iS [iA 37 (iT 4 7),iA 38 (iM 5),iC (.st 4 [none,none,some (1,102),some (8,108)] (.t 2) (.t 37)),iA 3 (iM 38),iA 4 (iO true)] .ret)))))
theorem jgA:fnC Tryz.prog Tryz.f24=some (jdI,[.cell 2 true 4,.t 3,.t 4],39):=by kernel_rfl
def jdw:C:=iS [iA 2 (.alloc 37 [.int .i64 0,.int .i64 0,.slice none 0 0,.slice none 0 0]),iA 3 (iN 0),iA 4 (iO false)] (iS [iA 12 (iM 0),iA 13 (.call 88 [.t 12,.c (.int .i64 0)]),iA 11 (iM 13),iA 14 (iE 11 0),iA 15 (iE 11 1),iA 5 (iM 14),iA 6 (iM 15)] (iS [iA 17 (iM 0),iA 18 (.call 88 [.t 17,.c (.int .i64 4)]),iA 16 (iM 18),iA 19 (iE 16 0),iA 20 (iE 16 1),iA 7 (iM 19),iA 8 (iM 20)] (.seq (iS [iA 21 (iM 6),iA 22 (iU 21),iA 23 (iM 22),iB 24 23 false (iM 8),iB 25 23 false (iU 24),iA 26 (.pick (.t 23) (.c (.bool true)) (.t 25)),iA 27 (iM 26),iB 28 27 false (iM 5),iB 29 27 false (.call 89 [.t 28]),iB 30 27 false (iU 29),iA 31 (.pick (.t 27) (.c (.bool true)) (.t 30)),iA 32 (iM 31),iB 33 32 false (iM 0),iB 34 32 false (.len true (.t 33)),iB 35 32 false (iQ .gtr 3 34 60000),iA 36 (.pick (.t 32) (.c (.bool true)) (.t 35)),iA 37 (iM 36),iB 38 37 false (iM 0),iB 39 37 false (.sl 0 (.t 38) (some (.c (.int .i64 8))) none),iB 40 37 false (.call 90 [.t 39]),iB 41 37 false (iM 7),iB 42 37 false (iP .neq 3 40 41),iA 43 (.pick (.t 37) (.c (.bool true)) (.t 42))] (iD 43 (iS [iA 44 (.bld [.int .i64 0,.int .i64 0,.slice none 0 0,.slice none 0 0] []),iC (.st 4 [none,none,some (1,102),some (8,108)] (.t 2) (.t 44)),iA 3 (iN 0),iA 4 (iO false)] .ret) .skip)) (iS [iA 46 (iM 0),iA 47 (.sl 0 (.t 46) (some (.c (.int .i64 8))) none),iA 48 (.call 91 [.t 47]),iA 45 (iM 48),iA 49 (iE 45 0),iA 50 (iE 45 1),iA 9 (.alloc 37 [.int .i64 0,.int .i64 0,.slice none 0 0,.slice none 0 0]),iC (.st 4 [none,none,some (1,102),some (8,108)] (.t 9) (.t 49)),iA 10 (iM 50)] (.seq (iS [iA 51 (iM 10),iA 52 (iU 51)] (iD 52 (iS [iA 53 (.bld [.int .i64 0,.int .i64 0,.slice none 0 0,.slice none 0 0] []),iC (.st 4 [none,none,some (1,102),some (8,108)] (.t 2) (.t 53)),iA 3 (iN 0),iA 4 (iO false)] .ret) .skip)) (iS [iA 54 (iT 4 9),iA 55 (iM 5),iC (.st 4 [none,none,some (1,102),some (8,108)] (.t 2) (.t 54)),iA 3 (iM 55),iA 4 (iO true)] .ret))))))
theorem jgq:fnC Tryz.prog Tryz.f23=some (jdw,[.cell 2 true 4,.t 3,.t 4],56):=by kernel_rfl
theorem jkm (t:ByteArray) (ht:t.size≤1048576):jZ Tryz.prog 24 [.c (.val (.string t))] (.tup [(true,jb (jc9 t).1),(false,[.val (.int .i64 (jc9 t).2.1)]),(false,[.val (.bool (jc9 t).2.2)])]):=by
 refine jr Tryz.func24 jgA (by simp) ?_
 unfold jdI;have h8':8≤t.size→(t.extract 8 t.size).size≤1048576:=fun h=>by rw [ByteArray.size_extract];omega
 simp only [go_sem];intro b2;refine jc (jnm t 0 (by omega) (by omega) (by omega)) (by simp only [go_sem]) fun η=>?_
 simp only [go_sem];cases hk:(ki t 0).2
 ·have hr:jc9 t=(ydZ,0,false):=by rw [jc9,if_pos (.inl hk)]
  rw [hr];simp only [go_sem,hk,jb,jH,jv];simp only [qf];refine js _ _ _ _ _ ?_;simp only [go_sem,jz,true_or,vW,vV,jI,jw,jb,jH,jv]
 by_cases h8:(t.size:Int)<8
 ·have hr:jc9 t=(ydZ,0,false):=by rw [jc9,if_pos (.inr (by omega))]
  rw [hr];simp only [go_sem,hk,h8,jb,jH,jv];simp only [qf];refine js _ _ _ _ _ ?_;simp only [go_sem,jz,true_or,vW,vV,jI,jw,jb,jH,jv]
 have h8n:8≤t.size:=by omega
 have htot:=jjS (t.extract 8 t.size)
 have hI:jc9 t=if (vH (t.extract 8 t.size)).2=false∨jf3 (ki t 0).1 (vH (t.extract 8 t.size)).1≠t then (ydZ,0,false) else ((vH (t.extract 8 t.size)).1,(ki t 0).1,true):=by
  rw [jc9,if_neg];rintro (h|h)
  ·rw [hk] at h;cases h
  ·omega
 simp only [go_sem,hk,h8,h8n,Nat.le_refl];refine jc (jiV (t.extract 8 t.size) (h8' h8n)) (by simp only [go_sem,jb]) fun ηy=>?_
 simp only [go_sem,jb];intro b7;generalize (ki t 0).1=q at*;rw [hI];generalize (vH (t.extract 8 t.size)).1=y at*;cases hg:(vH (t.extract 8 t.size)).2
 ·rw [if_pos (.inl rfl)]
  simp only [go_sem,hg,jb,jH,jv];simp only [qf];refine js _ _ _ _ _ ?_;simp only [go_sem,jz,true_or,vW,vV,jI,jw,jb,jH,jv]
 simp only [go_sem,hg,jb];refine jc (jkn q y (by omega)) (by simp only [go_sem,jb]) fun η=>?_
 simp only [go_sem,jb];by_cases he:jf3 q y=t
 ·rw [if_neg (by simp [he])]
  have he':decide (jf3 q y=t)=true:=decide_eq_true he;simp only [go_sem,jsH,he',jb];simp only [qf];refine js _ _ _ _ _ ?_;simp only [go_sem,jz,true_or,vW,vV,jI,jw,jb,jH,jv]
 ·rw [if_pos (.inr he)]
  have he':decide (jf3 q y=t)=false:=decide_eq_false he;simp only [go_sem,jsH,he',jb,jH,jv];simp only [qf];refine js _ _ _ _ _ ?_;simp only [go_sem,jz,true_or,vW,vV,jI,jw,jb,jH,jv]
theorem jkh (t:ByteArray) (ht:t.size≤1048576):jZ Tryz.prog 23 [.c (.val (.string t))] (.tup [(true,jb (zB t).1),(false,[.val (.int .i64 (zB t).2.1)]),(false,[.val (.bool (zB t).2.2)])]):=by
 refine jr Tryz.func23 jgq (by simp) ?_
 unfold jdw;have h8':8≤t.size→(t.extract 8 t.size).size≤1048576:=fun h=>by rw [ByteArray.size_extract];omega
 simp only [go_sem];intro b2;refine jc (jfY t 0 (by omega) (by omega)) (by simp only [go_sem]) fun η=>?_
 simp only [go_sem];refine jc (jfY t 4 (by omega) (by omega)) (by simp only [go_sem]) fun η=>?_
 simp only [go_sem];cases hk:(ki t 0).2
 ·have hr:zB t=(ydZ,0,false):=by rw [zB,if_pos (.inl hk)]
  rw [hr];simp only [go_sem,hk,jb,jH,jv];simp only [qf];refine js _ _ _ _ _ ?_;simp only [go_sem,jz,true_or,vW,vV,jI,jw,jb,jH,jv]
 cases hk4:(ki t 4).2
 ·have hr:zB t=(ydZ,0,false):=by rw [zB,if_pos (.inr (.inl hk4))]
  rw [hr];simp only [go_sem,hk,hk4,jb,jH,jv];simp only [qf];refine js _ _ _ _ _ ?_;simp only [go_sem,jz,true_or,vW,vV,jI,jw,jb,jH,jv]
 have h8n:8≤t.size:=by
  refine Classical.byContradiction fun h=>?_
  rw [ki,if_neg (by omega)] at hk4;cases hk4
 have htot:=jjS (t.extract 8 t.size);simp only [go_sem,hk,hk4];refine jc (qn (ki t 0).1) (by simp only [go_sem,hk,hk4]) fun η=>?_
 simp only [go_sem,hk,hk4];have hS1:=fun h:(zo (ki t 0).1=false∨60000<t.size∨jl1 (t.extract 8 t.size)≠(ki t 4).1)=>show zB t=(ydZ,0,false) by rw [zB,if_pos (.inr (.inr h))]
 have hS2:zo (ki t 0).1=true→¬60000<t.size→jl1 (t.extract 8 t.size)=(ki t 4).1→zB t=if (vH (t.extract 8 t.size)).2=false then (ydZ,0,false) else ((vH (t.extract 8 t.size)).1,(ki t 0).1,true):=fun a1 a2 a3=>by
  rw [zB,if_neg];rintro (h|h|h|h|h)
  ·rw [hk] at h;cases h
  ·rw [hk4] at h;cases h
  ·rw [a1] at h;cases h
  ·exact a2 h
  ·exact h a3
 cases hn:zo (ki t 0).1
 ·rw [hS1 (.inl hn)]
  simp only [go_sem,hn,jb,jH,jv];simp only [qf];refine js _ _ _ _ _ ?_;simp only [go_sem,jz,true_or,vW,vV,jI,jw,jb,jH,jv]
 by_cases hz:(60000:Int)<(t.size:Int)
 ·rw [hS1 (.inr (.inl (by omega)))]
  simp only [go_sem,hn,hz,jb,jH,jv];simp only [qf];refine js _ _ _ _ _ ?_;simp only [go_sem,jz,true_or,vW,vV,jI,jw,jb,jH,jv]
 simp only [go_sem,hn,hz,h8n,Nat.le_refl];refine jc (jin (t.extract 8 t.size) (by have:=h8' h8n;omega)) (by simp only [go_sem]) fun η=>?_
 simp only [go_sem];cases hs:jl1 (t.extract 8 t.size) !=(ki t 4).1;rotate_left
 ·rw [hS1 (.inr (.inr (by simpa using hs)))]
  simp only [go_sem,hs,jb,jH,jv];simp only [qf];refine js _ _ _ _ _ ?_;simp only [go_sem,jz,true_or,vW,vV,jI,jw,jb,jH,jv]
 rw [hS2 hn (by omega) (by simpa using hs)]
 simp only [go_sem,hs,h8n,Nat.le_refl];refine jc (jiT (t.extract 8 t.size) (h8' h8n)) (by simp only [go_sem,jb]) fun ηy=>?_
 simp only [go_sem,jb];intro b9;generalize (ki t 0).1=q at*;generalize (vH (t.extract 8 t.size)).1=y at*;cases hg:(vH (t.extract 8 t.size)).2
 ·rw [if_pos rfl]
  simp only [go_sem,hg,jb,jH,jv];simp only [qf];refine js _ _ _ _ _ ?_;simp only [go_sem,jz,true_or,vW,vV,jI,jw,jb,jH,jv]
 ·rw [if_neg (by simp)]
  simp only [go_sem,hg,jb];simp only [qf];refine js _ _ _ _ _ ?_;simp only [go_sem,jz,true_or,vW,vV,jI,jw,jb,jH,jv]
end Go.Proofs.YtmnpailnelmpiaaGreat
