/- Parts. -/
import Derived.Test.YtmnpailnelmpiaaGreatQAb
set_option linter.unusedSimpArgs false
set_option linter.unusedVariables false
set_option maxRecDepth 100000
namespace Go.Proofs.YtmnpailnelmpiaaGreat
open Go.RowKit Go.Sort
def jdx:C:=iS [iA 2 (iN 0)] (iS [iA 4 (iM 0),iA 5 (.call 144 [.t 4]),iA 3 (iM 5)] (.seq (iS [iA 6 (iM 3),iA 7 (.bin .eql 9 (.t 6) (.c (.string ⟨⟨[]⟩⟩)))] (iD 7 (iS [iA 2 (iN 0)] .ret) .skip)) (iS [iA 8 (iM 3),iA 9 (.call 90 [.t 8]),iA 10 (iQ .rem 3 9 4),iA 2 (iM 10)] .ret)))
theorem jgf:fnC Tryz.prog Tryz.f65=some (jdx,[.t 2],11):=by kernel_rfl
def jdI:C:=iS [iA 2 (iN 0)] (iS [iA 4 (iM 0),iA 5 (.call 142 [.t 4]),iA 3 (iM 5)] (.seq (iS [iA 6 (iM 3),iA 7 (.bin .eql 9 (.t 6) (.c (.string ⟨⟨[]⟩⟩)))] (iD 7 (iS [iA 2 (iN 0)] .ret) .skip)) (iS [iA 8 (iM 3),iA 9 (.call 143 [.t 8]),iA 10 (iQ .rem 3 9 4),iA 2 (iM 10)] .ret)))
theorem jgq:fnC Tryz.prog Tryz.f64=some (jdI,[.t 2],11):=by kernel_rfl
def jdv:C:=iS [iA 2 (.mov (.c (.string ⟨⟨[]⟩⟩)))] (.seq (iS [iA 4 (iM 0),iA 5 (.call 74 [.t 4,.c (.int .i64 0),.c (.int .i64 1000000000)]),iA 6 (iU 5)] (iD 6 (iS [iA 2 (.mov (.c (.string ⟨⟨[]⟩⟩)))] .ret) .skip)) (iS [iA 7 (.bsl 5 1 0 [] []),iA 3 (iM 7)] (.seq (.blk 0 (.loop (.seq (iS [iA 8 (iM 0),iA 9 (iQ .gtr 3 8 127)] (iD 9 .skip (.exit 0))) (.blk 1 (iS [iA 10 (iM 3),iA 11 (iM 0),iA 12 (iQ .rem 3 11 128),iA 13 (.bin .add 3 (.c (.int .i64 128)) (.t 12)),iA 14 (.cv (.num .u8) 0 (.t 13)),iA 15 (.bsl 5 1 1 [none] [(0,1,.t 14)]),iA 16 (.app 5 1 1 (.t 10) (.t 15)),iA 3 (iM 16)] (.reg [iA 17 (iM 0),iA 18 (iQ .quo 3 17 128),iA 0 (iM 18)])))))) (iS [iA 19 (iM 3),iA 20 (iM 0),iA 21 (.cv (.num .u8) 0 (.t 20)),iA 22 (.bsl 5 1 1 [none] [(0,1,.t 21)]),iA 23 (.app 5 1 1 (.t 19) (.t 22)),iA 24 (.cv .text 5 (.t 23)),iA 2 (iM 24)] .ret))))
theorem jgd:fnC Tryz.prog Tryz.f144=some (jdv,[.t 2],25):=by kernel_rfl
def jdE:C:=iS [iA 2 (.mov (.c (.string ⟨⟨[]⟩⟩)))] (.seq (iS [iA 4 (iM 0),iA 5 (.call 78 [.t 4,.c (.int .i64 0),.c (.int .i64 1000000000)]),iA 6 (iU 5)] (iD 6 (iS [iA 2 (.mov (.c (.string ⟨⟨[]⟩⟩)))] .ret) .skip)) (iS [iA 3 (.mov (.c (.slice none 0 0)))] (.seq (.blk 0 (.loop (.seq (iS [iA 7 (iM 0),iA 8 (iQ .geq 3 7 128)] (iD 8 .skip (.exit 0))) (.blk 1 (iS [iA 9 (iM 3),iA 10 (iM 0),iA 11 (iQ .rem 3 10 128),iA 12 (iQ .add 3 11 128),iA 13 (.cv (.num .u8) 0 (.t 12)),iA 14 (.bsl 5 1 1 [none] [(0,1,.t 13)]),iA 15 (.app 5 1 1 (.t 9) (.t 14)),iA 3 (iM 15)] (.reg [iA 16 (iM 0),iA 17 (iQ .quo 3 16 128),iA 0 (iM 17)])))))) (iS [iA 18 (iM 3),iA 19 (iM 0),iA 20 (.cv (.num .u8) 0 (.t 19)),iA 21 (.bsl 5 1 1 [none] [(0,1,.t 20)]),iA 22 (.app 5 1 1 (.t 18) (.t 21)),iA 23 (.cv .text 5 (.t 22)),iA 2 (iM 23)] .ret))))
theorem jgm:fnC Tryz.prog Tryz.f142=some (jdE,[.t 2],24):=by kernel_rfl
def jcn:C:=iS [iA 2 (iN 0)] (iS [iA 3 (iN 4294967295)] (.seq (iS [iA 4 (iN 0)] (.blk 0 (.loop (.seq (iS [iA 7 (iM 4),iA 8 (iM 0),iA 9 (.len true (.t 8)),iA 10 (iP .lss 3 7 9)] (iD 10 .skip (.exit 0))) (.seq (.blk 1 (iS [iA 13 (iM 3),iA 14 (iM 0),iA 15 (iM 4),iA 16 (.sidx (.t 14) (.t 15)),iA 17 (.cv (.num .i64) 0 (.t 16)),iA 18 (iP .xor 3 13 17),iA 3 (iM 18)] (iS [iA 5 (iN 0)] (.blk 2 (.loop (.seq (iS [iA 19 (iM 5),iA 20 (iQ .lss 3 19 8)] (iD 20 .skip (.exit 2))) (.seq (.blk 3 (iS [iA 23 (iM 3),iA 24 (iQ .rem 3 23 2),iA 25 (iQ .eql 3 24 1),iA 6 (iM 25)] (iS [iA 26 (iM 3),iA 27 (iQ .quo 3 26 2),iA 3 (iM 27)] (iS [iA 28 (iM 6)] (iD 28 (.reg [iA 29 (iM 3),iA 30 (iQ .xor 3 29 3988292384),iA 3 (iM 30)]) .skip))))) (.reg [iA 21 (iM 5),iA 22 (iQ .add 3 21 1),iA 5 (iM 22)])))))))) (.reg [iA 11 (iM 4),iA 12 (iQ .add 3 11 1),iA 4 (iM 12)])))))) (iS [iA 31 (iM 3),iA 32 (iQ .xor 3 31 4294967295),iA 2 (iM 32)] .ret)))
theorem jiR:fnC Tryz.prog Tryz.f90=some (jcn,[.t 2],33):=by kernel_rfl
def jnh:C:=iS [iA 2 (iN 0)] (iS [iA 3 (iN 4294967295)] (.seq (iS [iA 4 (iN 0)] (.blk 0 (.loop (.seq (iS [iA 7 (iM 4),iA 8 (iM 0),iA 9 (.len true (.t 8)),iA 10 (iP .lss 3 7 9)] (iD 10 .skip (.exit 0))) (.seq (.blk 1 (iS [iA 13 (iM 3),iA 14 (iM 0),iA 15 (iM 4),iA 16 (.sidx (.t 14) (.t 15)),iA 17 (.cv (.num .i64) 0 (.t 16)),iA 18 (iP .xor 3 13 17),iA 3 (iM 18)] (iS [iA 5 (iN 0)] (.blk 2 (.loop (.seq (iS [iA 19 (iM 5),iA 20 (iQ .lss 3 19 8)] (iD 20 .skip (.exit 2))) (.seq (.blk 3 (iS [iA 23 (iM 3),iA 24 (iQ .rem 3 23 2),iA 25 (iQ .eql 3 24 1),iA 6 (iM 25)] (iS [iA 26 (iM 3),iA 27 (iQ .quo 3 26 2),iA 3 (iM 27)] (iS [iA 28 (iM 6)] (iD 28 (.reg [iA 29 (iM 3),iA 30 (iQ .xor 3 29 3988292384),iA 3 (iM 30)]) .skip))))) (.reg [iA 21 (iM 5),iA 22 (iQ .add 3 21 1),iA 5 (iM 22)])))))))) (.reg [iA 11 (iM 4),iA 12 (iQ .add 3 11 1),iA 4 (iM 12)])))))) (iS [iA 31 (iM 3),iA 32 (iQ .xor 3 31 4294967295),iA 2 (iM 32)] .ret)))
theorem jiY:fnC Tryz.prog Tryz.f143=some (jnh,[.t 2],33):=by kernel_rfl
def jgN:C:=iS [iA 6 (iO false)] (iS [iA 7 (iM 0),iA 8 (iM 1),iA 9 (iP .geq 3 7 8),iA 10 (iM 9),iB 11 10 true (iM 0),iB 12 10 true (iM 2),iB 13 10 true (iP .leq 3 11 12),iA 14 (.pick (.t 10) (.t 13) (.c (.bool false))),iA 6 (iM 14)] .ret)
theorem jiP:fnC Tryz.prog Tryz.f74=some (jgN,[.t 6],15):=by kernel_rfl
def jfk:C:=iS [iA 6 (iO false)] (iS [iA 7 (iM 0),iA 8 (iM 1),iA 9 (iP .geq 3 7 8),iA 10 (iM 9),iB 11 10 true (iM 0),iB 12 10 true (iM 2),iB 13 10 true (iP .leq 3 11 12),iA 14 (.pick (.t 10) (.t 13) (.c (.bool false))),iA 6 (iM 14)] .ret)
theorem jhn:fnC Tryz.prog Tryz.f78=some (jfk,[.t 6],15):=by kernel_rfl
theorem jH (a b c:Int):ka Tryz.prog 74 [.c (.val (.int .i64 a)),.c (.val (.int .i64 b)),.c (.val (.int .i64 c))] (.c (.val (.bool (decide (b≤a∧a≤c))))):=by
 refine jr Tryz.func74 jiP (by simp) ?_
 unfold jgN;by_cases h:b≤a
 ·simp only [go_sem,h]
 ·simp only [go_sem,h]
theorem jC (a b c:Int):ka Tryz.prog 78 [.c (.val (.int .i64 a)),.c (.val (.int .i64 b)),.c (.val (.int .i64 c))] (.c (.val (.bool (decide (b≤a∧a≤c))))):=by
 refine jr Tryz.func78 jhn (by simp) ?_
 unfold jfk;by_cases h:b≤a
 ·simp only [go_sem,h]
 ·simp only [go_sem,h]
def jgA (v:Nat):List UInt8:=if v<128 then [UInt8.ofNat v] else UInt8.ofNat (128+v%128)::jgA (v/128)
termination_by v
decreasing_by omega
theorem jkx (v:Nat):(jgA v).length≤v+1:=by
 induction v using Nat.strongRecOn with
 |_ v ih=>
  unfold jgA;split
  ·simp
  ·have:=ih (v/128) (by omega)
   simp only [List.length_cons];omega
def jpU (n:Int):ByteArray:=if 0≤n∧n≤1000000000 then ⟨(jgA n.toNat).toArray⟩ else ⟨#[]⟩
theorem jwk {v:Nat} (h:v<256):D.val (.int .u8 (IntKind.u8.wrap (v:Int)))=jaP (UInt8.ofNat v):=by
 have:IntKind.u8.wrap (v:Int)=v:=IntWalk.u8_in _ (by omega)
 rw [this];simp [jaP,Nat.mod_eq_of_lt h]
theorem jkC (v:Nat):Int.tdiv (v:Int) 128=((v/128:Nat):Int):=rfl
theorem jkB (v:Nat):Int.tmod (v:Int) 128=((v%128:Nat):Int):=rfl
theorem jrH {n:Nat} (h:n≤1000000000):jpU (n:Int)=⟨(jgA n).toArray⟩:=by simp [jpU];omega
theorem jjn (n:Int):ka Tryz.prog 144 [.c (.val (.int .i64 n))] (.c (.val (.string (jpU n)))):=by
 refine jr Tryz.func144 jgd (by simp) ?_
 unfold jdv;simp only [go_sem];refine jc (jH n 0 1000000000) (by simp only [go_sem]) fun η=>?_
 by_cases h:0≤n∧n≤1000000000
 ·obtain ⟨n,rfl⟩:=Int.eq_ofNat_of_zero_le h.1
  have hn:n≤1000000000:=by omega
  rw [jrH hn];simp only [go_sem,h];intro η1;have hl0:=jkx n;refine vD (fun s=>∃(l:List UInt8) (v:Nat) (g:Nat) (η:jp),l++jgA v=jgA n∧v≤n∧(g=700∨g=1600)∧s.t 0=.c (.v (.int .i64 v))∧s.t 3=.c (.h g 0 [] (η []))∧s.o g=.loose (.sl 1 5 (l.map jaP)) η) (fun s=>s.n 0) ?_ ?_
  ·exact ⟨[],n,700,η1,rfl,Nat.le_refl _,.inl rfl,by simp only [go_sem],by simp only [go_sem],by simp only [go_sem]⟩
  ·rintro s ⟨l,v,g,η,hl,hv,hg,h0,h3,ho⟩
   have hll:l.length≤1000000001:=by have:=congrArg List.length hl;simp only [List.length_append] at this;omega
   by_cases hlt:128≤v
   ·have hlt':(127:Int)<v:=by omega
    have hw:IntKind.i64.wrap (128+((v%128:Nat):Int))=((128+v%128:Nat):Int):=by rw [jo (by omega) (by omega)];omega
    have hw2:IntKind.i64.wrap ((v/128:Nat):Int)=((v/128:Nat):Int):=jo (by omega) (by omega)
    have hb:=jwk (v:=128+v%128) (by omega)
    have e':l++jgA v=(l++[UInt8.ofNat (128+v%128)])++jgA (v/128):=by rw [jgA,if_neg (by omega)];simp
    rcases hg with rfl|rfl
    ·simp only [go_sem,h0,h3,ho,hlt',jkC,jkB,hw,hw2]
     intro η2;refine ⟨by simp [maxLen];try omega,by simp;try omega,fun η3=>⟨⟨_,v/128,1600,η3,e'.symm.trans hl,by omega,.inr rfl,rfl,rfl,by simp only [go_sem,hb,List.map_append]⟩,?_⟩⟩
     rw [jdR (k:=.i64) (n:=((v/128:Nat):Int)) (by simp only [go_sem]),jdR h0];omega
    ·simp only [go_sem,h0,h3,ho,hlt',jkC,jkB,hw,hw2]
     intro η2;refine ⟨by simp [maxLen];try omega,by simp;try omega,fun η3=>⟨⟨_,v/128,1600,η3,e'.symm.trans hl,by omega,.inr rfl,rfl,rfl,by simp only [go_sem,hb,List.map_append]⟩,?_⟩⟩
     rw [jdR (k:=.i64) (n:=((v/128:Nat):Int)) (by simp only [go_sem]),jdR h0];omega
   ·have hlt':¬(127:Int)<v:=by omega
    have hb:=jwk (v:=v) (by omega)
    have e':l++jgA v=l++[UInt8.ofNat v]:=by rw [jgA,if_pos (by omega)]
    have hvl:jgA n=l++[UInt8.ofNat v]:=by rw [←hl,e']
    rcases hg with rfl|rfl
    ·simp only [go_sem,h0,h3,ho,hlt']
     intro η2;refine ⟨by simp [maxLen];try omega,by simp;try omega,fun η3=>jh0 (bs:=jgA n) rfl rfl (by rw [hvl];simp only [go_sem,hb,List.map_append]) ?_⟩
     simp only [go_sem]
    ·simp only [go_sem,h0,h3,ho,hlt']
     intro η2;refine ⟨by simp [maxLen];try omega,by simp;try omega,fun η3=>jh0 (bs:=jgA n) rfl rfl (by rw [hvl];simp only [go_sem,hb,List.map_append]) ?_⟩
     simp only [go_sem]
 ·simp only [go_sem,h]
  simp [jpU,h]
theorem jjv (n:Int):ka Tryz.prog 142 [.c (.val (.int .i64 n))] (.c (.val (.string (jpU n)))):=by
 refine jr Tryz.func142 jgm (by simp) ?_
 unfold jdE;simp only [go_sem];refine jc (jC n 0 1000000000) (by simp only [go_sem]) fun η=>?_
 by_cases h:0≤n∧n≤1000000000
 ·obtain ⟨n,rfl⟩:=Int.eq_ofNat_of_zero_le h.1
  have hn:n≤1000000000:=by omega
  rw [jrH hn];simp only [go_sem,h];have hl0:=jkx n;refine vD (fun s=>∃(l:List UInt8) (v:Nat),l++jgA v=jgA n∧v≤n∧s.t 0=.c (.v (.int .i64 v))∧((l=[]∧s.t 3=.c (.v (.slice none 0 0)))∨∃η,s.t 3=.c (.h 1500 0 [] (η []))∧s.o 1500=.loose (.sl 1 5 (l.map jaP)) η)) (fun s=>s.n 0) ?_ ?_
  ·exact ⟨[],n,rfl,Nat.le_refl _,by simp only [go_sem],.inl ⟨rfl,by simp only [go_sem]⟩⟩
  ·rintro s ⟨l,v,hl,hv,h0,hg⟩
   have hll:l.length≤1000000001:=by have:=congrArg List.length hl;simp only [List.length_append] at this;omega
   by_cases hlt:128≤v
   ·have hlt':(128:Int)≤v:=by omega
    have hw:IntKind.i64.wrap (((v%128:Nat):Int)+128)=((128+v%128:Nat):Int):=by rw [jo (by omega) (by omega)];omega
    have hw2:IntKind.i64.wrap ((v/128:Nat):Int)=((v/128:Nat):Int):=jo (by omega) (by omega)
    have hb:=jwk (v:=128+v%128) (by omega)
    have e':l++jgA v=(l++[UInt8.ofNat (128+v%128)])++jgA (v/128):=by rw [jgA,if_neg (by omega)];simp
    rcases hg with ⟨rfl,h3⟩|⟨η,h3,ho⟩
    ·simp only [go_sem,h0,h3,List.length_nil,hlt',maxLen,jkC,jkB,hw,hw2]
     intro η2;intro η3;refine ⟨⟨_,v/128,e'.symm.trans hl,by omega,rfl,.inr ⟨η3,rfl,by simp only [go_sem,hb,List.map_append]⟩⟩,?_⟩
     rw [jdR (k:=.i64) (n:=((v/128:Nat):Int)) (by simp only [go_sem]),jdR h0];omega
    ·simp only [go_sem,h0,h3,ho,hlt',jkC,jkB,hw,hw2]
     intro η2;refine ⟨by simp [maxLen];try omega,by simp;try omega,fun η3=>⟨⟨_,v/128,e'.symm.trans hl,by omega,rfl,.inr ⟨η3,rfl,by simp only [go_sem,hb,List.map_append]⟩⟩,?_⟩⟩
     rw [jdR (k:=.i64) (n:=((v/128:Nat):Int)) (by simp only [go_sem]),jdR h0];omega
   ·have hlt':¬(128:Int)≤v:=by omega
    have hb:=jwk (v:=v) (by omega)
    have e':l++jgA v=l++[UInt8.ofNat v]:=by rw [jgA,if_pos (by omega)]
    have hvl:jgA n=l++[UInt8.ofNat v]:=by rw [←hl,e']
    rcases hg with ⟨rfl,h3⟩|⟨η,h3,ho⟩
    ·simp only [go_sem,h0,h3,List.length_nil,hlt',maxLen]
     intro η2 η3;refine jh0 (bs:=jgA n) rfl rfl (by rw [hvl];simp only [go_sem,hb,List.map_append]) ?_
     simp only [go_sem]
    ·simp only [go_sem,h0,h3,ho,hlt']
     intro η2;refine ⟨by simp [maxLen];try omega,by simp;try omega,fun η3=>jh0 (bs:=jgA n) rfl rfl (by rw [hvl];simp only [go_sem,hb,List.map_append]) ?_⟩
     simp only [go_sem]
 ·simp only [go_sem,h]
  simp [jpU,h]
def juH (a b:Int):Int:=IntKind.i64.wrap ((BitVec.ofInt 64 a^^^BitVec.ofInt 64 b).toNat)
theorem juG (a b:Int):IntKind.i64.wrap ((BitVec.ofInt 64 a^^^BitVec.ofInt 64 b).toNat)=juH a b:=rfl
def jjV (c:Int):Int:=if (c.tmod 2==1)=true then juH (IntKind.i64.wrap (c.tdiv 2)) 3988292384 else IntKind.i64.wrap (c.tdiv 2)
def jmM:Nat→Int→Int
 |0,c=>c
 |n+1,c=>jjV (jmM n c)
def jwz (c:Int) (b:UInt8):Int:=jmM 8 (juH c (IntKind.i64.wrap b.toNat))
def jzb (b:ByteArray):Int:=juH (b.data.toList.foldl jwz 4294967295) 4294967295
theorem jq8 {α β:Type} (f:β→α→β) (c:β) {l:List α} {k:Nat} {x:α} (h:l[k]?=some x):(l.take (k+1)).foldl f c=f ((l.take k).foldl f c) x:=by
 rw [List.take_add_one,h];simp
theorem jrE {P:Program} (b:ByteArray) (hb:b.size<9223372036854775807):wpC P 0 jcn (jwJ [.t 2] (.c (.val (.int .i64 (jzb b))))) (St.init [.c (.val (.string b))]):=by
 unfold jcn;simp only [go_sem];refine vD (fun s=>∃k:Nat,k≤b.size∧s.t 0=.c (.v (.string b))∧s.t 4=.c (.v (.int .i64 k))∧s.t 3=.c (.v (.int .i64 ((b.data.toList.take k).foldl jwz 4294967295)))) (fun s=>b.size-s.n 4) ?_ ?_
 ·exact ⟨0,Nat.zero_le _,by simp only [go_sem],by simp only [go_sem]<;>rfl,by simp only [go_sem]<;>rfl⟩
 ·rintro s ⟨k,hk,h0,h4,h3⟩
  by_cases hlt:k<b.size
  ·have hlt':(k:Int)<b.size:=by omega
   obtain ⟨u,hu⟩:∃u,b[k]?=some u:=⟨b[k],by simp [hlt]⟩
   have hu':b.data.toList[k]?=some u:=by
    rw [←hu,getElem?_pos b k hlt];simp only [Array.getElem?_toList];exact getElem?_pos b.data k hlt
   have hw4:IntKind.i64.wrap ((k:Int)+1)=((k+1:Nat):Int):=jo (by omega) (by omega)
   simp only [go_sem,h0,h3,h4,hlt',juG];refine ⟨u,hu,?_⟩;refine vD (fun s=>∃j:Nat,j≤8∧s.t 0=.c (.v (.string b))∧s.t 4=.c (.v (.int .i64 k))∧s.t 5=.c (.v (.int .i64 j))∧s.t 3=.c (.v (.int .i64 (jmM j (juH ((b.data.toList.take k).foldl jwz 4294967295) (IntKind.i64.wrap u.toNat)))))) (fun s=>8-s.n 5) ?_ ?_
   ·exact ⟨0,Nat.zero_le _,by simp only [go_sem,h0],by simp only [go_sem,h4],by simp only [go_sem]<;>rfl,by simp only [go_sem]<;>rfl⟩
   ·rintro s' ⟨j,hj,h0',h4',h5',h3'⟩
    by_cases hj':j<8
    ·have hj2:(j:Int)<8:=by omega
     have hw:IntKind.i64.wrap ((j:Int)+1)=((j+1:Nat):Int):=jo (by omega) (by omega)
     cases hodd:(jmM j (juH ((b.data.toList.take k).foldl jwz 4294967295) (IntKind.i64.wrap u.toNat))).tmod 2==1 with
     |true=>
      simp only [go_sem,h0',h4',h5',h3',hj2,hodd,hw,juG];exact ⟨⟨j+1,by omega,rfl,by simp only [jmM,jjV,hodd,↓reduceIte];rfl⟩,by rw [jdR (k:=.i64) (n:=((j+1:Nat):Int)) (by simp only [go_sem]),jdR h5'];omega⟩
     |false=>
      simp only [go_sem,h0',h4',h5',h3',hj2,hodd,hw,juG];exact ⟨⟨j+1,by omega,rfl,by simp only [jmM,jjV,hodd,Bool.false_eq_true,↓reduceIte]⟩,by rw [jdR (k:=.i64) (n:=((j+1:Nat):Int)) (by simp only [go_sem]),jdR h5'];omega⟩
    ·have hj2:¬(j:Int)<8:=by omega
     have hj8:j=8:=by omega
     subst hj8;simp only [go_sem,h0',h4',h5',h3',hj2,hw4];exact ⟨⟨k+1,by omega,rfl,by rw [jq8 _ _ hu'];rfl⟩,by rw [jdR (k:=.i64) (n:=((k+1:Nat):Int)) (by simp only [go_sem]),jdR h4];omega⟩
  ·have hlt':¬(k:Int)<b.size:=by omega
   have hkk:b.data.toList.take k=b.data.toList:=List.take_of_length_le (by simp only [Array.length_toList];exact Nat.le_of_not_lt hlt)
   simp only [go_sem,h0,h3,h4,hlt',juG,hkk];rfl
theorem jml (b:ByteArray) (hb:b.size<9223372036854775807):ka Tryz.prog 90 [.c (.val (.string b))] (.c (.val (.int .i64 (jzb b)))):=
 jr Tryz.func90 jiR (by simp) (jrE b hb)
theorem jmq (b:ByteArray) (hb:b.size<9223372036854775807):ka Tryz.prog 143 [.c (.val (.string b))] (.c (.val (.int .i64 (jzb b)))):=
 jr Tryz.func143 jiY (by simp) (jrE b hb)
def jbU (n:Int):Int:=if ((jpU n).toList==ByteArray.toList ⟨⟨[]⟩⟩)=true then 0 else (jzb (jpU n)).tmod 4
theorem jjU (n:Int):(jpU n).size<9223372036854775807:=by
 unfold jpU;split
 ·have:=jkx n.toNat
  show (jgA n.toNat).toArray.size<_;simp only [List.size_toArray];omega
 ·decide
theorem jdg (n:Int):ka Tryz.prog 65 [.c (.val (.int .i64 n))] (.c (.val (.int .i64 (jbU n)))):=by
 refine jr Tryz.func65 jgf (by simp) ?_
 unfold jdx;simp only [go_sem];refine jc (jjn n) (by simp only [go_sem]) fun η=>?_
 cases he:(jpU n).toList==ByteArray.toList ⟨⟨[]⟩⟩ with
 |true=>
  simp only [go_sem,he];simp only [jbU,he,if_true]
 |false=>
  simp only [go_sem,he];refine jc (jml _ (jjU n)) (by simp only [go_sem]) fun η=>?_
  simp only [go_sem];simp only [jbU,he,Bool.false_eq_true,if_false]
theorem jdi (n:Int):ka Tryz.prog 64 [.c (.val (.int .i64 n))] (.c (.val (.int .i64 (jbU n)))):=by
 refine jr Tryz.func64 jgq (by simp) ?_
 unfold jdI;simp only [go_sem];refine jc (jjv n) (by simp only [go_sem]) fun η=>?_
 cases he:(jpU n).toList==ByteArray.toList ⟨⟨[]⟩⟩ with
 |true=>
  simp only [go_sem,he];simp only [jbU,he,if_true]
 |false=>
  simp only [go_sem,he];refine jc (jmq _ (jjU n)) (by simp only [go_sem]) fun η=>?_
  simp only [go_sem];simp only [jbU,he,Bool.false_eq_true,if_false]
end Go.Proofs.YtmnpailnelmpiaaGreat
