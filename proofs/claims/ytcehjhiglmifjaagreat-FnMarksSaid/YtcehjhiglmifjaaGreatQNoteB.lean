/- Parts. -/
import Derived.Test.YtcehjhiglmifjaaGreatQHole
import Derived.Laws.Strings
import Derived.Lib.ConvBytes
import Derived.Lib.AtoiErrMem
set_option linter.all false
set_option maxHeartbeats 8000000
set_option maxRecDepth 100000
namespace Go.Proofs.YtcehjhiglmifjaaGreat
open Go.RowKit Go.Sort
def jfd:C:=iS [iA 2 (.mov (.c (.string ⟨⟨[]⟩⟩)))] (iS [iA 3 (.mov (.c (.string ⟨⟨[]⟩⟩)))] (.seq (iS [aN 4 0] (.blk 0 (.loop (.seq (iS [aM 5 4,aM 6 0,aG 7 6,aP 8 .lss 3 5 7] (iD 8 .skip (.exit 0))) (.seq (.blk 1 (.reg [aM 11 3,aM 12 0,aM 13 4,aI 14 1 12 13,aL 15 14,iA 16 (iK 159 [15]),aP 17 .add 9 11 16,aM 3 17])) (.reg [aM 9 4,aQ 10 .add 3 9 1,aM 4 10])))))) (iS [aM 18 3,aM 2 18] .ret)))
theorem jiz:fnC Tryz.prog Tryz.f107=some (jfd,[.t 2],19):=by kernel_rfl
def jlO:C:=iS [iA 2 (.mov (.c (.string ⟨⟨[]⟩⟩)))] (iS [iA 3 (.mov (.c (.slice none 0 0)))] (.seq (iS [aM 6 0,aG 7 6,aN 8 0] (.blk 0 (.loop (iS [aP 9 .lss 3 8 7] (.seq (iD 9 .skip (.exit 0)) (.seq (.blk 1 (iS [aI 10 1 6 8,aL 11 10,aM 5 11] (.reg [aM 12 3,aM 13 5,iA 14 (iK 153 [13]),iA 15 (.apps 5 (.t 12) (.t 14)),aM 3 15]))) (.reg [aQ 16 .add 3 8 1,aM 8 16]))))))) (iS [aM 17 3,iA 18 (.cv .text 5 (.t 17)),aM 2 18] .ret)))
theorem jms:fnC Tryz.prog Tryz.f101=some (jlO,[.t 2],19):=by kernel_rfl
theorem jyU {d:Option Nat} {s:St} {K:St->Prop} (hk:K (s.put d (.c (.v (.string ⟨#[]⟩))))):cvK d s K .text (.c (.v (.slice none 0 0))):=
 ⟨_,⟨_,0,[],rfl,by simp [Is],rfl⟩,hk⟩
theorem jCH (k:Nat):∀v:Nat,v<128^(k+1)->(vY v).length<=k+1:=by
 induction k with
 |zero=>
  intro v h;rw [vY,if_pos (by simpa using h)];simp
 |succ k ih=>
  intro v h;rw [vY];split
  ·simp
  ·have:=ih (v/128) (by rw [Nat.pow_succ] at h;omega)
   simp only [aOD];omega
theorem jnz (n:Int):(jeb n).data.toList.length<=5:=by
 unfold jeb;split
 ·have:=jCH 4 n.toNat (by simp;omega)
  simpa using this
 ·simp
def vG (l:List Int):List UInt8:=l.flatMap λn=>(jeb n).data.toList
def jl4 (l:List Int):ByteArray:=⟨(vG l).toArray⟩
theorem jny (l:List Int):(vG l).length<=5*l.length:=by
 induction l with
 |nil=>simp [vG]
 |cons x l ih=>
  have:=jnz x;simp only [vG,aOM,aNR,aOD] at ih⊢;omega
theorem jun (l:List Int) (x:Int):vG (l++[x])=vG l++(jeb x).data.toList:=by simp [vG]
theorem jmD {l:List Int} {k:Nat} {x:Int} (h:l[k]?=some x):vG (l.take (k+1))=vG (l.take k)++(jeb x).data.toList:=by
 rw [aOA,h];exact jun _ _
theorem jhR (l:List Int):(jl4 l).size=(vG l).length:=by
 show (vG l).toArray.size=_;simp
theorem jum {l:List Int} {k:Nat} {x:Int} (h:l[k]?=some x):jl4 (l.take k)++jeb x=jl4 (l.take (k+1)):=by
 apply ByteArray.ext
 rw [ByteArray.data_append];show (vG (l.take k)).toArray++(jeb x).data=(vG (l.take (k+1))).toArray;rw [jmD h];simp
theorem jzA (l:List Int) (hl:l.length<=20000000):jW Tryz.prog 107 [.c (jb l)] (.c (.val (.string (jl4 l)))):=by
 refine pf_ jiz ?_;unfold jfd;simp only [go_sem];refine qT (λs=>∃k:Nat,k<=l.length/\s.t 0=.c (.ro (jb l))/\s.t 4=.c (.v (.int .i64 k))/\s.t 3=.c (.v (.string (jl4 (l.take k))))) (λs=>l.length-s.n 4) ?_ ?_
 ·exact ⟨0,aOL _,by simp only [go_sem]<;>rfl,by simp only [go_sem]<;>rfl,by simp only [go_sem]<;>rfl⟩
 ·rintro s ⟨k,hk,h0,h4,h3⟩
  by_cases aB:k<l.length
  ·have aA:(k:Int)<l.length:=by omega
   obtain ⟨x,hx⟩:=ja aB;have hw:=kx k
   have cP:(jl4 (l.take k)).size+(jeb x).size<=maxLen:=by
    have h1:=jny (l.take k);have h2:=jnz x;rw [<-jhR,aNV] at h1;have bI:(jeb x).size<=5:=h2;unfold maxLen;omega
   simp only [go_sem,h0,h4,h3,aB,aA,zd hx];refine jm (jeU x) λη=>?_
   simp only [go_sem,h0,h4,hw,jum hx,cP];refine ⟨⟨k+1,?_⟩,?_⟩
   ·and_intros<;>first|rfl|omega
   ·rw [jbr (k:=.i64) (n:=((k+1:Nat):Int)) (by simp only [go_sem]),jbr h4];omega
  ·have aA:¬(k:Int)<l.length:=by omega
   rw [aNU (by omega)] at h3
   simp only [go_sem,h0,h4,h3,aA]
theorem jrS (l:List Int) (hl:l.length<=20000000):jW Tryz.prog 101 [.c (jb l)] (.c (.val (.string (jl4 l)))):=by
 refine pf_ jms ?_;unfold jlO;simp only [go_sem];refine qT (λs=>∃k:Nat,k<=l.length/\s.t 6=.c (.ro (jb l))/\s.t 7=.c (.v (.int .i64 l.length))/\s.t 8=.c (.v (.int .i64 k))/\((k=0/\s.t 3=.c (.v (.slice none 0 0)))\/∃η,s.t 3=.c (.h 1500 0 [] (η []))/\s.o 1500=.loose (.sl 1 5 ((vG (l.take k)).map qe)) η)) (λs=>l.length-s.n 8) ?_ ?_
 ·exact ⟨0,aOL _,by simp only [go_sem]<;>rfl,by simp only [go_sem]<;>rfl,by simp only [go_sem]<;>rfl,.inl ⟨rfl,by simp only [go_sem]⟩⟩
 ·rintro s ⟨k,hk,h6,h7,h8,hg⟩
  by_cases aB:k<l.length
  ·have aA:(k:Int)<l.length:=by omega
   obtain ⟨x,hx⟩:=ja aB;have hw:=kx k;have h2:(jeb x).size<=5:=jnz x;have h1:=jny (l.take k);rw [aNV] at h1;have nN:(vG (l.take k)).map qe++strCells (jeb x)=(vG (l.take (k+1))).map qe:=by rw [jmD hx,aPZ];rfl
   have xS:((vG (l.take k)).map qe).length+(jeb x).size<=140737488355328:=by rw [aPA];omega
   rcases hg with ⟨cB,h3⟩|⟨η,h3,ho⟩
   ·have aCQ:(jeb x).size<=140737488355328:=by omega
    have yN:strCells (jeb x)=(vG (l.take (k+1))).map qe:=by rw [<-nN,cB];rfl
    simp only [go_sem,h3,h6,h7,h8,aB,aA,zd hx];refine jm (zY x) λη=>?_
    simp only [go_sem,js5,h6,h7,h8,hw];refine ⟨_,rfl,?_⟩;simp only [go_sem,aCQ];intro eH;refine ⟨⟨k+1,by omega,rfl,.inr ⟨eH,rfl,by rw [yN]⟩⟩,?_⟩
    rw [jbr (k:=.i64) (n:=((k+1:Nat):Int)) (by simp only [go_sem]),jbr h8];omega
   ·simp only [go_sem,h3,h6,h7,h8,aB,aA,zd hx]
    refine jm (zY x) λη=>?_
    simp only [go_sem,js5,h6,h7,h8,ho,hw];refine ⟨_,rfl,?_⟩;simp only [go_sem,xS];intro eH;refine ⟨⟨k+1,by omega,rfl,.inr ⟨eH,rfl,by rw [nN]⟩⟩,?_⟩
    rw [jbr (k:=.i64) (n:=((k+1:Nat):Int)) (by simp only [go_sem]),jbr h8];omega
  ·have aA:¬(k:Int)<l.length:=by omega
   have xW:k=l.length:=by omega
   rcases hg with ⟨cB,h3⟩|⟨η,h3,ho⟩
   ·have hl0:l=[]:=aON (by omega)
    simp only [go_sem,h3,h7,h8,aA];refine jyU ?_;simp only [go_sem];rw [hl0];rfl
   ·rw [aNU (by omega)] at ho
    simp only [go_sem,h3,h7,h8,aA];refine jex (ty:=5) (cs:=(vG l).map qe) (η:=η) (bs:=vG l) (by simp only [go_sem,ho]) rfl rfl ?_
    simp only [go_sem];rfl
def jhF:C:=iS [iA 2 (.mov (.c (.string ⟨⟨[]⟩⟩)))] (.seq (iS [aM 3 0,iA 4 (.call 62 [.t 3,oI 0,oI 4294967295]),aU 5 4] (iD 5 (iS [iA 2 (.mov (.c (.string ⟨⟨[]⟩⟩)))] .ret) .skip)) (iS [aM 6 0,iA 7 (.bin .shr 3 (.t 6) (.c (.int .u64 24))),iA 8 (.cv (.num .u8) 0 (.t 7)),aM 9 0,iA 10 (.bin .shr 3 (.t 9) (.c (.int .u64 16))),iA 11 (.cv (.num .u8) 0 (.t 10)),aM 12 0,iA 13 (.bin .shr 3 (.t 12) (.c (.int .u64 8))),iA 14 (.cv (.num .u8) 0 (.t 13)),aM 15 0,iA 16 (.cv (.num .u8) 0 (.t 15)),iA 17 (.bsl 5 1 4 [none,none,none,none] [(0,1,.t 8),(1,1,.t 11),(2,1,.t 14),(3,1,.t 16)]),iA 18 (.cv .text 5 (.t 17)),aM 2 18] .ret))
theorem jj5:fnC Tryz.prog Tryz.f97=some (jhF,[.t 2],19):=by kernel_rfl
theorem str0 (b:ByteArray):(b.toList==ByteArray.toList ⟨⟨[]⟩⟩)=decide (b.size=0):=by
 rw [ByteArray.toList_eq,show ByteArray.toList ⟨⟨[]⟩⟩=[] from ByteArray.toList_eq _]
 rw [show b.size=b.data.toList.length from by cases b;rfl]
 cases b.data.toList<;>simp
def jq0 (v:Int):UInt8:=UInt8.ofNat (v%256).toNat
theorem jG6 (v:Int):D.val (.int .u8 (IntKind.u8.wrap v))=qe (jq0 v):=by
 have h1:0<=v%256:=Int.emod_nonneg _ (by decide)
 have h2:v%256<256:=Int.emod_lt_of_pos _ (by decide)
 obtain ⟨n,hn⟩:=Int.eq_ofNat_of_zero_le h1
 have hw:IntKind.u8.wrap v=v%256:=by
  rw [show IntKind.u8.wrap v=v%2^8 from by rw [IntKind.wrap_u8];rfl];rfl
 rw [hw,jq0,hn,aNW,qe];have h3:n<256:=by omega
 simp [Nat.mod_eq_of_lt h3]
def jmo (v:Int):List UInt8:=[jq0 (v/16777216),jq0 (v/65536),jq0 (v/256),jq0 v]
def jcm (v:Int):ByteArray:=if 0<=v/\v<=4294967295 then ⟨(jmo v).toArray⟩ else ⟨⟨[]⟩⟩
theorem jtN (v:Int):(jcm v).size<=4:=by
 unfold jcm;split
 ·exact aOC 4
 ·exact aOL 4
theorem jgq (v:Int):jW Tryz.prog 97 [.c (.val (.int .i64 v))] (.c (.val (.string (jcm v)))):=by
 refine pf_ jj5 ?_;unfold jhF;simp only [go_sem];refine jm (jw v 0 4294967295) λη=>?_
 simp only [go_sem];cases h:decide (0<=v/\v<=4294967295)
 ·have h':=of_decide_eq_false h
  simp only [go_sem];simp [jcm,h']
 have h':=aOY h;have s1:v.fdiv (2^min 24 64)=v/16777216:=by rw [show (2:Int)^(min 24 64)=16777216 from rfl,Int.fdiv_eq_ediv_of_nonneg _ (by decide)]
 have s2:v.fdiv (2^min 16 64)=v/65536:=by rw [show (2:Int)^(min 16 64)=65536 from rfl,Int.fdiv_eq_ediv_of_nonneg _ (by decide)]
 have s3:v.fdiv (2^min 8 64)=v/256:=by rw [show (2:Int)^(min 8 64)=256 from rfl,Int.fdiv_eq_ediv_of_nonneg _ (by decide)]
 simp only [go_sem,s1,s2,s3];intro η;refine jex (bs:=jmo v) rfl rfl ?_ ?_
 ·simp only [jmo,aPB,List.map_nil,jG6]
 ·simp only [go_sem]
  simp [jcm,h']
abbrev ja9 (l:List UInt8):D:=.sl 1 5 (l.map qe)
theorem jaV (l:List UInt8):(ja9 l).len=l.length:=by simp [D.len,D.cells,D.size]
def enI (e:En):List Int:=[e.aNI,e.seq,e.run,e.aNH]
def edI (e:Ed):List Int:=[e.src,e.dst]
def tkI (t:Tk):List Int:=[t.aND,t.aNL,t.tri,t.til]
def plI (p:Pl):List Int:=[p.aNI,p.aNN,p.aNM,p.aNA,(p.aNF.length:Int)]++p.aNF.flatMap edI
def rnI (r:Rn):List Int:=(r.id::plI r.aNB)++(r.aND::r.aNA.flatMap tkI)
def shI (l:List En):List Int:=(l.length:Int)::l.flatMap enI
def jb7 (y:Yd):List Int:=([y.now,y.seq]++y.aNC.flatMap shI)++((y.aNE.length:Int)::y.aNE.flatMap rnI)
noncomputable def qS (y:Yd):ByteArray:=if ju y=true then jl4 (jb7 y) else ⟨⟨[]⟩⟩
theorem jso {α β:Type} {f:α->List β} {c:Nat}:∀{L:List α},(∀x∈L,(f x).length<=c)->(L.flatMap f).length<=c*L.length
 |[],_=>by simp
 |x::L,h=>by
  have h1:=h x (by simp)
  have h2:=jso (L:=L) (c:=c) λy hy=>h y (by simp [hy])
  rw [aOM,aNR,aOD,Nat.mul_succ];omega
theorem jbP {α β:Type} {f:α->List β} {c:Nat} {L:List α} (h:∀x∈L,(f x).length<=c) (k:Nat):((L.take k).flatMap f).length<=c*L.length:=by
 have h1:=jso (L:=L.take k) (c:=c) λy hy=>h y (aQM hy)
 have h2:(L.take k).length<=L.length:=by rw [aNV];omega
 exact aPC h1 (Nat.mul_le_mul_left _ h2)
theorem jll {α β:Type} {f:α->List β} {L:List α} {k:Nat} {x:α} (h:L[k]?=some x):(L.take (k+1)).flatMap f=(L.take k).flatMap f++f x:=by
 rw [aOA,h];simp
theorem jB2 {p:Pl} (h:p.aNF.length<=30):(plI p).length<=65:=by
 have:=jso (f:=edI) (c:=2) (L:=p.aNF) λ_ _=>aOC 2
 simp only [plI,aNR,aOD,aOR];omega
theorem jBX {r:Rn} (h:RunOkP r):(rnI r).length<=120:=by
 obtain ⟨n,hn,d9,cF,dH,-⟩:=jbJ h.aNB;have h1:=jB2 dH;have h2:=jso (f:=tkI) (c:=4) (L:=r.aNA) λ_ _=>aOC 4
 have h3:=h.len;simp only [rnI,aNR,aOD];omega
theorem jBQ {l:List En} (h:jhN l):(shI l).length<=330:=by
 have:=jso (f:=enI) (c:=4) (L:=l) λ_ _=>aOC 4
 have:=h.aNN;simp only [shI,aOD];omega
theorem jzE {y:Yd} (h:YardOkP y):(jb7 y).length<=3000:=by
 have h1:=jso (f:=shI) (c:=330) (L:=y.aNC) λl hl=>jBQ (h.shelves l hl)
 have h2:=jso (f:=rnI) (c:=120) (L:=y.aNE) λr hr=>jBX (h.right r hr)
 have h3:=h.four;have h4:=h.eight;simp only [jb7,aNR,aOD,aOR];omega
theorem jsJ (y:Yd):(qS y).size<=15000:=by
 unfold qS;split
 ·rename_i h
  have h1:=jzE (yard_iff.1 h);have h2:=jny (jb7 y);rw [jhR];omega
 ·exact aOL _
noncomputable def jaA (q:Int) (y:Yd):ByteArray:=if (0<=q/\q<=1000000000)/\(qS y).size≠0/\(qS y).size<=59992 then jcm q++jcm (jrq (qS y))++qS y else ⟨⟨[]⟩⟩
noncomputable def jaB (r:Rn):Rn:=if (kH r&&r.aND==1)=true then ⟨r.id,r.aNB,4,vq jA r.aNA r.aNA.length⟩ else r
theorem jko {r:Rn} (h:(kH r&&r.aND==1)=false):jaB r=r:=by simp [jaB,h]
theorem jqg {r:Rn} (h:(kH r&&r.aND==1)=true):jaB r=⟨r.id,r.aNB,4,vq jA r.aNA r.aNA.length⟩:=by simp [jaB,h]
theorem jGn {r:Rn} (h:RunOkP r) (h1:r.aND=1):cS 5 r.aNA=0:=by
 have h2:=h.aND;rw [h1] at h2;unfold jgf at h2;split at h2
 ·omega
 split at h2
 ·omega
 split at h2
 ·omega
 split at h2
 ·rename_i h3;exact h3.1
 ·omega
theorem jvl {ts:List Tk} (h:cS 5 ts=0) (k:Nat):vq (qw (-1)) ts k=vq jA ts k:=by
 refine jm4 (λj y hy=>?_) k
 have h5:y.aND≠5:=jt7 h hy;have hj:(j:Int)≠-1:=by omega
 simp [qw,jA,h5,hj]
theorem jxT (r:Rn):kz (jaB r)=kz r:=by
 unfold jaB;split
 ·simp only [kz,vT]
 ·rfl
def jeQ (y:Yd) (k:Nat) (r:Rn):Yd:=⟨y.now,y.seq,y.aNC,y.aNE.set k r⟩
theorem jzM {α:Type} {f:α->Nat} {l:List α} {k:Nat} {x v:α} (h:l[k]?=some x) (hv:f v=f x):qh f (l.set k v)=qh f l:=by
 obtain ⟨hk,hx⟩:=aNP.1 h;have e:l=l.take k++x::l.drop (k+1):=by rw [<-hx,<-aPG hk,aPF]
 have e2:l.set k v=l.take k++v::l.drop (k+1):=by rw [List.set_eq_take_append_cons_drop,if_pos hk]
 rw [e2]
 conv=>rhs;rw [e]
 rw [jaJ,jaJ];simp only [qh,aPB,aQD,hv]
theorem juF {y:Yd} {k:Nat} {r r':Rn} (h:y.aNE[k]?=some r) (hr:kz r'=kz r):jn (jeQ y k r')=jn y:=by
 simp only [jn,zn,jeQ,aOE,jzM h hr]
noncomputable def kW (y:Yd) (id:Int):Int:=if ju y=false then 8 else if runAt y id<0 then 10 else if ((y.aNE[(runAt y id).toNat]?).getD default).aND=1 then 0 else 12
noncomputable def kF (y:Yd) (id:Int):Yd:=if kW y id=0 then jeQ y (runAt y id).toNat (jaB ((y.aNE[(runAt y id).toNat]?).getD default)) else y
def jgM:List UInt8->Nat
 |[]=>0
 |b::l=>b.toNat%128+128*jgM l
def jeA:List UInt8->Bool
 |[]=>false
 |[b]=>decide (b.toNat<128)
 |b::c::l=>decide (128<=b.toNat)&&jeA (c::l)
theorem jnA {v:Nat} (h:v<128):vY v=[UInt8.ofNat v]:=by unfold vY;rw [if_pos h]
theorem jrj {v:Nat} (h:¬v<128):vY v=UInt8.ofNat (128+v%128)::vY (v/128):=by rw [vY,if_neg h]
theorem jhU (v:Nat):vY v≠ []:=by
 by_cases h:v<128
 ·rw [jnA h];simp
 ·rw [jrj h];simp
theorem jwh (v:Nat):jeA (vY v)=true/\jgM (vY v)=v:=by
 induction v using Nat.strongRecOn with
 |_ v ih=>
  by_cases h:v<128
  ·rw [jnA h]
   have:(UInt8.ofNat v).toNat=v:=by simp [Nat.mod_eq_of_lt (show v<256 by omega)]
   simp only [jeA,jgM,this,aOJ];omega
  ·rw [jrj h]
   obtain ⟨h1,h2⟩:=ih (v/128) (by omega)
   have hb:(UInt8.ofNat (128+v%128)).toNat=128+v%128:=by simp [Nat.mod_eq_of_lt (show 128+v%128<256 by omega)]
   refine ⟨?_,by simp only [jgM,hb,h2];omega⟩
   cases hl:vY (v/128) with
   |nil=>exact absurd hl (jhU _)
   |cons c l=>rw [hl] at h1;simp only [jeA,hb,aOF,aOJ];exact ⟨by omega,h1⟩
theorem jtL:∀l:List UInt8,jeA l=true->(vY (jgM l)).length<=l.length/\((vY (jgM l)).length=l.length->vY (jgM l)=l)
 |[],h=>by simp [jeA] at h
 |[b],h=>by
  have hb:b.toNat<128:=by simpa [jeA] using h
  have e:jgM [b]=b.toNat:=by simp only [jgM];omega
  rw [e,jnA hb];exact ⟨by simp,λ_=>by simp⟩
 |b::c::l,h=>by
  simp only [jeA,aOF,aOJ] at h;obtain ⟨h1,h2⟩:=jtL (c::l) h.2;have hb:=h.1;have bM:=b.toNat_lt;have e:jgM (b::c::l)=b.toNat%128+128*jgM (c::l):=rfl;by_cases hz:jgM (b::c::l)<128
  ·rw [jnA hz];exact ⟨by simp,λhl=>by simp at hl⟩
  ·have e1:jgM (b::c::l)/128=jgM (c::l):=by omega
   have e2:128+jgM (b::c::l)%128=b.toNat:=by omega
   rw [jrj hz,e1,e2];refine ⟨by simp only [aOD] at h1⊢;omega,λhl=>?_⟩
   rw [h2 (by simpa using hl)]
   simp
def vGo:Nat->List UInt8->Nat->Nat->Option (Nat×Nat)
 |0,_,_,_=>none
 |_+1,[],_,_=>none
 |f+1,b::l,n,i=>if b.toNat<128 then (if n+b.toNat%128*128^i<=1000000000/\(vY (n+b.toNat%128*128^i)).length=i+1 then some (n+b.toNat%128*128^i,i+1) else none)
  else vGo f l (n+b.toNat%128*128^i) (i+1)
theorem jbT (l:List UInt8) (b:UInt8):jgM (l++[b])=jgM l+b.toNat%128*128^l.length:=by
 induction l with
 |nil=>simp [jgM]
 |cons c l ih=>
  simp only [aOU,jgM,ih,aOD,Nat.pow_succ];generalize b.toNat%128=q;generalize 128^l.length=z;rw [Nat.mul_add,<-aRC,Nat.mul_left_comm 128 q z,Nat.mul_comm 128 z]
theorem jqt:∀(l:List UInt8) (b:UInt8),(∀c∈l,128<=c.toNat)->b.toNat<128->jeA (l++[b])=true
 |[],b,_,hb=>by simpa [jeA] using hb
 |[c],b,h,hb=>by have:=h c (by simp);simp [jeA,hb,this]
 |c::d::l,b,h,hb=>by
  have:=jqt (d::l) b (λx hx=>h x (by simp [hx])) hb
  have h1:=h c (by simp)
  simp only [aOU,jeA,aOF,aOJ] at this⊢;exact ⟨h1,this⟩
theorem jBG:∀(f:Nat) (l p:List UInt8) (v k:Nat),(∀c∈p,128<=c.toNat)->vGo f l (jgM p) p.length=some (v,k)->v<=1000000000/\∃r,p++l=vY v++r/\k=(vY v).length
 |0,_,_,_,_,_,h=>by simp [vGo] at h
 |_+1,[],_,_,_,_,h=>by simp [vGo] at h
 |f+1,b::l,p,v,k,hp,h=>by
  simp only [vGo] at h;split at h
  ·rename_i hb
   split at h
   ·rename_i hc
    simp only [Option.some.injEq,Prod.mk.injEq] at h;obtain ⟨rfl,rfl⟩:=h;rw [<-jbT] at hc⊢;have hg:=jqt p b hp hb;have:=(jtL _ hg).2 (by rw [hc.2];simp)
    exact ⟨hc.1,l,by rw [this];simp,hc.2.symm⟩
   ·simp at h
  ·rename_i hb
   rw [<-jbT] at h;have e:p.length+1=(p++[b]).length:=by simp
   rw [e] at h
   obtain ⟨h1,r,h2,h3⟩:=jBG f l (p++[b]) v k (λc hc=>by
    rcases aNT.1 hc with hc|hc
    ·exact hp c hc
    ·simp at hc;subst hc;omega) h
   exact ⟨h1,r,by rw [<-h2];simp,h3⟩
theorem jzK {v:Nat} (h:v<=1000000000):(vY v).length<=5:=by
 have:=jnz (v:Int)
 rwa [jhT h] at this
theorem jnf:∀l:List UInt8,jeA l=true->∃p b,l=p++[b]/\(∀c∈p,128<=c.toNat)/\b.toNat<128
 |[],h=>by simp [jeA] at h
 |[b],h=>⟨[],b,rfl,by simp,by simpa [jeA] using h⟩
 |b::c::l,h=>by
  simp only [jeA,aOF,aOJ] at h;obtain ⟨p,d,h1,h2,h3⟩:=jnf (c::l) h.2
  exact ⟨b::p,d,by rw [h1];rfl,λx hx=>by
   rcases aOK.1 hx with rfl|hx
   ·exact h.1
   ·exact h2 x hx,h3⟩
theorem jrm:∀(f:Nat) (q p l:List UInt8) (b:UInt8),(∀c∈q,128<=c.toNat)->b.toNat<128->q.length+1<=f->
 vGo f (q++b::l) (jgM p) p.length=if jgM (p++q++[b])<=1000000000/\(vY (jgM (p++q++[b]))).length=p.length+q.length+1 then some (jgM (p++q++[b]),p.length+q.length+1) else none
 |0,_,_,_,_,_,_,h=>by omega
 |f+1,[],p,l,b,_,hb,_=>by
  simp only [aOQ,vGo,if_pos hb,aOP,<-jbT,aOR,aOO]
 |f+1,c::q,p,l,b,hq,hb,hf=>by
  have hc:=hq c (by simp)
  have:=jrm f q (p++[c]) l b (λx hx=>hq x (by simp [hx])) hb (by simp at hf;omega)
  simp only [aOU,vGo,if_neg (show¬c.toNat<128 by omega),<-jbT]
  rw [show p.length+1=(p++[c]).length by simp,this]
  have e1:p++[c]++q++[b]=p++c::q++[b]:=by simp
  have e2:(p++[c]).length+q.length+1=p.length+(c::q).length+1:=by simp;omega
  rw [e1,e2]
def jf9 (l:List UInt8):Option (Nat×Nat):=vGo 5 l 0 0
theorem jec {l:List UInt8} {v k:Nat} (h:jf9 l=some (v,k)):v<=1000000000/\∃r,l=vY v++r/\k=(vY v).length:=by
 obtain ⟨h1,r,h2,h3⟩:=jBG 5 l [] v k (by simp) h
 exact ⟨h1,r,h2,h3⟩
theorem jwi {v:Nat} (h:v<=1000000000) (r:List UInt8):jf9 (vY v++r)=some (v,(vY v).length):=by
 obtain ⟨h1,h2⟩:=jwh v;obtain ⟨p,b,h3,h4,h5⟩:=jnf _ h1;have h6:=jzK h;have e:vY v++r=p++b::r:=by rw [h3];simp
 have h7:(vY v).length=p.length+1:=by rw [h3];simp
 have:=jrm 5 p [] r b h4 h5 (by omega)
 rw [jf9,e];simp only [aOQ,aOR,aPH] at this;rw [<-h3,h2] at this;rw [show vGo 5 (p++b::r) 0 0=vGo 5 (p++b::r) (jgM []) 0 from rfl,this,if_pos ⟨h,by rw [h7]⟩,h7]
def vAt (s:ByteArray) (k:Int):Int×Int:=if k<0 then (0,-1) else match jf9 (s.data.toList.drop k.toNat) with
 |some (v,m)=>((v:Int),k+(m:Int))
 |none=>(0,-1)
theorem jwj {l:List UInt8} {v k:Nat} (h:jf9 l=some (v,k)):0<k/\k<=l.length:=by
 obtain ⟨_,r,h1,h2⟩:=jec h;have:=aQZ.2 (jhU v);rw [h1,aNR];omega
def rvF:Nat->List UInt8->Option (List Int)
 |_,[]=>some []
 |0,_::_=>none
 |f+1,b::l=>match jf9 (b::l) with
  |some (v,k)=>(rvF f ((b::l).drop k)).map λr=>(v:Int)::r
  |none=>none
def jfK (n:Int):Prop:=0<=n/\n<=1000000000
theorem jsL {n:Int} (h:jfK n):∃v:Nat,n=v/\v<=1000000000/\(jeb n).data.toList=vY v:=by
 obtain ⟨v,rfl⟩:=Int.eq_ofNat_of_zero_le h.1;have h2:=h.2;exact ⟨v,rfl,by omega,by rw [jhT (by omega)]⟩
theorem jhS (n:Int) (l:List Int):vG (n::l)=(jeb n).data.toList++vG l:=by simp [vG]
theorem js2:∀(L:List Int) (f:Nat),(∀n∈L,jfK n)->(vG L).length<=f->rvF f (vG L)=some L
 |[],f,_,_=>by cases f<;>simp [vG,rvF]
 |n::L,f,h,hf=>by
  obtain ⟨v,rfl,hv,e⟩:=jsL (h n (by simp))
  have aJ:=jhU v;rw [jhS,e] at hf⊢;rw [aNR] at hf;have hp:=aQZ.2 aJ;obtain ⟨f,rfl⟩:∃g,f=g+1:=⟨f-1,by omega⟩
  cases hl:vY v++vG L with
  |nil=>simp [aJ] at hl
  |cons b l=>
   have hh:=jwi hv (vG L);rw [hl] at hh;simp only [rvF,hh];have hd:(b::l).drop (vY v).length=vG L:=by rw [<-hl];simp
   rw [hd,js2 L f (λm hm=>h m (by simp [hm])) (by omega)]
   rfl
theorem jnO:∀(f:Nat) (l:List UInt8) (L:List Int),rvF f l=some L->l=vG L/\∀n∈L,jfK n
 |0,[],L,h=>by simp [rvF] at h;subst h;simp [vG]
 |_+1,[],L,h=>by simp [rvF] at h;subst h;simp [vG]
 |0,_::_,L,h=>by simp [rvF] at h
 |f+1,b::l,L,h=>by
  simp only [rvF] at h;cases hv:jf9 (b::l) with
  |none=>rw [hv] at h;simp at h
  |some p=>
   obtain ⟨v,k⟩:=p;rw [hv] at h;simp only [Option.map_eq_some_iff] at h;obtain ⟨r,h1,rfl⟩:=h;obtain ⟨h2,h3⟩:=jnO f _ _ h1;obtain ⟨h4,q,h5,rfl⟩:=jec hv;refine ⟨?_,λn hn=>?_⟩
   ·rw [jhS,jhT h4,<-h2,h5];simp
   ·rcases aOK.1 hn with rfl|hn
    ·exact ⟨by omega,by omega⟩
    ·exact h3 n hn
section
variable {σ:Type}
def RdSeq (nx:σ->Int×σ) (bd:σ->Bool):σ->List Int->σ->Prop
 |s,[],s'=>s'=s
 |s,x::l,s'=>bd s=false/\(nx s).1=x/\RdSeq nx bd (nx s).2 l s'
variable {nx:σ->Int×σ} {bd:σ->Bool} {sb:σ->σ}
theorem RdSeq.app:∀{l m:List Int} {s s' s'':σ},RdSeq nx bd s l s'->RdSeq nx bd s' m s''->RdSeq nx bd s (l++m) s''
 |[],_,_,_,_,h,h'=>by rw [show _=_ from h] at h';exact h'
 |_::_,_,_,_,_,⟨h1,h2,h3⟩,h'=>⟨h1,h2,h3.app h'⟩
theorem RdSeq.split:∀{l m:List Int} {s s'':σ},RdSeq nx bd s (l++m) s''->∃s',RdSeq nx bd s l s'/\RdSeq nx bd s' m s''
 |[],_,s,_,h=>⟨s,rfl,h⟩
 |_::_,_,_,_,⟨h1,h2,h3⟩=>by
  obtain ⟨s',h4,h5⟩:=RdSeq.split h3;exact ⟨s',⟨h1,h2,h4⟩,h5⟩
def vm {α:Type} (bd:σ->Bool) (rd:σ->α×σ):Nat->List α×σ->List α×σ
 |0,s=>s
 |n+1,s=>if bd s.2=true then s else vm bd rd n (s.1++[(rd s.2).1],(rd s.2).2)
theorem jgm {α:Type} {rd:σ->α×σ} {s:List α×σ} (h:bd s.2=true):∀n,vm bd rd n s=s
 |0=>rfl
 |n+1=>by rw [vm,if_pos h]
theorem jdi {α:Type} {rd:σ->α×σ} {pr:α->List Int} (aJ:∀x,pr x≠ []) (ok:α->Prop) (h:∀x s s',ok x->RdSeq nx bd s (pr x) s'->rd s=(x,s')):
 ∀(l:List α) (acc:List α) (s s':σ),(∀x∈l,ok x)->RdSeq nx bd s (l.flatMap pr) s'->vm bd rd l.length (acc,s)=(acc++l,s')
 |[],acc,s,s',_,h'=>by simp only [aOR,vm,aOP];rw [show s'=s from h']
 |x::l,acc,s,s',ho,h'=>by
  rw [aOM] at h';obtain ⟨s1,h1,h2⟩:=h'.split;have e:=h x s s1 (ho x (by simp)) h1
  have hb:bd s=false:=by
   cases hx:pr x with
   |nil=>exact absurd hx (aJ x)
   |cons a m=>rw [hx] at h1;exact h1.1
  rw [aOD,vm,if_neg (by rw [hb];decide),e,jdi aJ ok h l _ s1 s' (λz hz=>ho z (by simp [hz])) h2]
  simp
theorem jmU {α:Type} {rd:σ->α×σ} {pr:α->List Int} (mE:∀s,bd s=true->bd (rd s).2=true) (h:∀s,bd (rd s).2=false->RdSeq nx bd s (pr (rd s).1) (rd s).2):
 ∀(n:Nat) (acc:List α) (s:σ),bd (vm bd rd n (acc,s)).2=false->∃l,l.length=n/\(vm bd rd n (acc,s)).1=acc++l/\RdSeq nx bd s (l.flatMap pr) (vm bd rd n (acc,s)).2
 |0,acc,s,_=>⟨[],rfl,by simp [vm],rfl⟩
 |n+1,acc,s,hb=>by
  rw [vm] at hb⊢;by_cases h0:bd s=true
  ·rw [if_pos h0] at hb;simp only at hb;rw [h0] at hb;cases hb
  ·rw [if_neg h0] at hb⊢
   have h1:bd (rd s).2=false:=by
    cases hq:bd (rd s).2 with
    |false=>rfl
    |true=>rw [jgm (by exact hq)] at hb;simp only at hb;rw [hq] at hb;cases hb
   obtain ⟨l,e1,e2,e3⟩:=jmU mE h n (acc++[(rd s).1]) (rd s).2 hb;exact ⟨(rd s).1::l,by simp [e1],by rw [e2];simp,by rw [aOM];exact (h s h1).app e3⟩
def jtc (nx:σ->Int×σ) (s:σ):Ed×σ:=(⟨(nx s).1,(nx (nx s).2).1⟩,(nx (nx s).2).2)
def jrC (nx:σ->Int×σ) (s:σ):Tk×σ:=let a:=nx s;let b:=nx a.2;let c:=nx b.2;let d:=nx c.2;(⟨a.1,b.1,c.1,d.1⟩,d.2)
def jv0 (nx:σ->Int×σ) (s:σ):En×σ:=let a:=nx s;let b:=nx a.2;let c:=nx b.2;let d:=nx c.2;(⟨a.1,b.1,c.1,d.1⟩,d.2)
def jhQ (cap:Option Int) (sb:σ->σ) (m:Int) (s:σ):σ:=match cap with
 |some c=>if m>c then sb s else s
 |none=>s
def rdPl (cap:Option Int) (nx:σ->Int×σ) (bd:σ->Bool) (sb:σ->σ) (s:σ):Pl×σ:=
 let a:=nx s;let b:=nx a.2;let c:=nx b.2;let d:=nx c.2;let m:=nx d.2
 let e:=vm bd (jtc nx) m.1.toNat ([],jhQ cap sb m.1 m.2)
 (⟨a.1,b.1,c.1,d.1,e.1⟩,e.2)
theorem jEf (x:Ed) (s s':σ) (h:RdSeq nx bd s (edI x) s'):jtc nx s=(x,s'):=by
 obtain ⟨_,h1,_,h2,h3⟩:=h;rw [show s'=_ from h3,jtc,h1,h2]
theorem jsA {cap:Option Int} {m:Int} {s:σ} (h:∀c,cap=some c->m<=c):jhQ cap sb m s=s:=by
 unfold jhQ;split
 ·rename_i c;rw [if_neg (by have:=h c rfl;omega)]
 ·rfl
theorem jDx {cap:Option Int} {p:Pl} {s s':σ} (hc:∀c,cap=some c->(p.aNF.length:Int)<=c) (h:RdSeq nx bd s (plI p) s'):rdPl cap nx bd sb s=(p,s'):=by
 obtain ⟨s1,h1,h2⟩:=RdSeq.split (l:=[p.aNI,p.aNN,p.aNM,p.aNA,(p.aNF.length:Int)]) h;obtain ⟨_,e1,_,e2,_,e3,_,e4,_,e5,e6⟩:=h1;have hr:=jdi (rd:=jtc nx) (pr:=edI) (by intro x;simp [edI]) (λ_=>True) (λx s s' _ h=>jEf x s s' h) p.aNF [] s1 s' (by simp) h2
 rw [show s1=_ from e6] at hr
 simp only [rdPl,e1,e2,e3,e4,e5,aNW,jsA hc,hr,aOQ]
end
def jad (L:List Int) (s:Nat×Bool):Int×(Nat×Bool):=match L[s.1]? with
 |some v=>(v,(s.1+1,s.2))
 |none=>(0,(s.1,true))
theorem jto {L:List Int}:∀(xs:List Int) {rest:List Int} {lo:Nat},L.drop lo=xs++rest->RdSeq (jad L) (·.2) (lo,false) xs (lo+xs.length,false)
 |[],_,_,_=>rfl
 |x::xs,rest,lo,h=>by
  have h0:L[lo]?=some x:=by
   have:=congrArg (·[0]?) h
   simpa using this
  have h1:L.drop (lo+1)=xs++rest:=by
   have:=congrArg List.tail h;simpa using this
  have e:jad L (lo,false)=(x,(lo+1,false)):=by simp only [jad,h0]
  refine ⟨rfl,by rw [e],?_⟩
  rw [e];have:=jto xs h1;rw [aOD,show lo+(xs.length+1)=lo+1+xs.length by omega]
  exact this
theorem jsM:∀(f:Nat) (l:List UInt8) (n i:Nat),(∀c∈l.take f,128<=c.toNat)->vGo f l n i=none
 |0,_,_,_,_=>rfl
 |_+1,[],_,_,_=>rfl
 |f+1,b::l,n,i,h=>by
  have hb:=h b (by simp)
  rw [vGo,if_neg (by omega)]
  exact jsM f l _ _ λc hc=>h c (by simp [hc])
structure GoOn (l:List UInt8) (i:Nat) (n:Nat):Prop where
 le:i<=l.length
 on:∀c∈l.take i,128<=c.toNat
 dec:n=jgM (l.take i)
theorem GoOn.start (l:List UInt8):GoOn l 0 0:=⟨aOL _,by simp,rfl⟩
theorem GoOn.next {l:List UInt8} {i n:Nat} {b:UInt8} (h:GoOn l i n) (hb:l[i]?=some b) (h8:128<=b.toNat):GoOn l (i+1) (n+b.toNat%128*128^i):=by
 have hi:=(aNP.1 hb).1;have e:l.take (i+1)=l.take i++[b]:=by rw [aOA,hb];rfl
 refine ⟨hi,λc hc=>?_,?_⟩
 ·rw [e] at hc
  rcases aNT.1 hc with hc|hc
  ·exact h.on c hc
  ·simp at hc;subst hc;exact h8
 ·rw [e,jbT,<-h.dec,aNV,aPD (by omega)]
theorem GoOn.done {l:List UInt8} {i n:Nat} {b:UInt8} (h:GoOn l i n) (hi:i<5) (hb:l[i]?=some b) (h8:b.toNat<128):
 jf9 l=if n+b.toNat%128*128^i<=1000000000/\(vY (n+b.toNat%128*128^i)).length=i+1 then some (n+b.toNat%128*128^i,i+1) else none:=by
 have hl:=(aNP.1 hb).1
 have e:l=l.take i++b::l.drop (i+1):=by
  have:l.drop i=b::l.drop (i+1):=by rw [aPG hl];congr 1;exact (aNP.1 hb).2
  rw [<-this,aPF]
 have aD:(l.take i).length=i:=by rw [aNV];omega
 have:=jrm 5 (l.take i) [] (l.drop (i+1)) b h.on h8 (by omega)
 rw [<-e] at this;simp only [aOQ,aOR,aPH,aD] at this;rw [jbT,aD,<-h.dec] at this;exact this
theorem GoOn.stop {l:List UInt8} {i n:Nat} (h:GoOn l i n) (hi:5<=i\/l.length<=i):jf9 l=none:=by
 refine jsM 5 l 0 0 λc hc=>h.on c ?_
 rcases hi with hi|hi
 ·exact (List.take_sublist_take_left hi).subset hc
 ·rw [aNU hi];exact aQM hc
theorem jCl:∀l:List UInt8,jgM l<128^l.length
 |[]=>by simp [jgM]
 |b::l=>by
  have:=jCl l;simp only [jgM,aOD,Nat.pow_succ];omega
theorem GoOn.lt {l:List UInt8} {i n:Nat} (h:GoOn l i n):n<128^i:=by
 have:=jCl (l.take i);rw [aNV,aPD h.le,<-h.dec] at this;exact this
theorem jy6 {t:ByteArray} {k i:Nat} {b:UInt8} (h:(t.data.toList.drop k)[i]?=some b):t[k+i]?=some b:=by
 rw [aPR,Array.getElem?_toList] at h
 have hk:k+i<t.size:=by
  obtain ⟨h1,_⟩:=Array.getElem?_eq_some_iff.1 h;exact h1
 rw [getElem?_pos t (k+i) hk];rw [getElem?_pos t.data (k+i) hk] at h;exact h
theorem pow_i {i:Nat} (h:i<5):128^i<=268435456:=by
 obtain rfl|rfl|rfl|rfl|rfl:i=0\/i=1\/i=2\/i=3\/i=4:=by omega
 all_goals decide
theorem shl_m (b:Int) {m:Nat} (hm:m<=40) (hb:0<=b/\b<128):jcB .shl .i64 b (m:Int)=.int .i64 (b*((2^m:Nat):Int)):=by
 have yM:IntKind.i64.bits=64:=rfl;have e1:min ((m:Int).toNat) IntKind.i64.bits=m:=by rw [yM,aNW];omega
 have e2:(2:Int)^m=((2^m:Nat):Int):=by rw [Int.natCast_pow];rfl
 have hz:jcB .shl .i64 b (m:Int)=.int .i64 (IntKind.i64.wrap (b*((2^m:Nat):Int))):=by
  show Value.int .i64 (IntKind.i64.wrap (b*2^(min ((m:Int).toNat) IntKind.i64.bits)))=_;rw [e1,e2]
 rw [hz];have hp:(2:Nat)^m<=2^40:=Nat.pow_le_pow_right (by decide) hm
 have l9:(2:Nat)^m<=1099511627776:=hp;have h1:b*((2^m:Nat):Int)<=128*1099511627776:=Int.mul_le_mul (by omega) (Int.ofNat_le.2 l9) (Int.natCast_nonneg _) (by omega)
 have h0:0<=b*((2^m:Nat):Int):=Int.mul_nonneg hb.1 (Int.natCast_nonneg _);generalize b*((2^m:Nat):Int)=z at*;rw [kS (by omega) (by omega)]
theorem shl_i (b:Int) {i:Nat} (h:i<5) (hb:0<=b/\b<128):jcB .shl .i64 b (7*(i:Int))=.int .i64 (b*((128^i:Nat):Int)):=by
 have:=shl_m b (m:=7*i) (by omega) hb
 rw [Nat.pow_mul] at this;rw [show 7*(i:Int)=((7*i:Nat):Int) by omega]
 exact this
theorem shl_w (b:Int) {i:Nat} (h:i<5) (hb:0<=b/\b<128):IntKind.i64.wrap (b*2^min (7*(i:Int)).toNat 64)=b*((128^i:Nat):Int):=by
 have h1:Value.int .i64 (IntKind.i64.wrap (b*2^min (7*(i:Int)).toNat 64))=.int .i64 (b*((128^i:Nat):Int)):=shl_i b h hb;injection h1
theorem jzJ (n:Nat):(jeb (n:Int)).size=if n<=1000000000 then (vY n).length else 0:=by
 split
 ·rename_i h;rw [jhT h];rfl
 ·rename_i h
  have:jeb (n:Int)=⟨#[]⟩:=by rw [jeb,if_neg (by omega)]
  rw [this];rfl
theorem jyT (u:UInt8):IntKind.i64.wrap (u.toNat:Int)=u.toNat:=kS (by omega) (by have:=u.toNat_lt;omega)
theorem jFP (u:UInt8):((u.toNat:Int)).tmod 128=((u.toNat%128:Nat):Int):=rfl
theorem jpF {s:St} (a b:Nat) (u v:Value) (ha:s.t a=.c (.v u)) (hb:s.t b=.c (.v v)) (hu:u.oneCell'=true:=by rfl) (hv:v.oneCell'=true:=by rfl):jv2 [.t a,.t b] (.tup [(false,[.val u]),(false,[.val v])]) s:=by
 simp only [qF,jbf,ha,hb,jbe,jJ,jz];refine ⟨by simp,?_⟩
 simp [qz,A0.one,hu,hv,IsD,RT.flat]
def jjm:C:=iS [aN 4 0,aN 5 0] (.seq (iS [aM 9 1,aM 10 0,iA 11 (.len true (.t 10)),aQ 12 .sub 3 11 1,iA 13 (.call 62 [.t 9,oI 0,.t 12]),aU 14 13] (iD 14 (iS [aN 4 0,aN 5 (-1)] .ret) .skip)) (iS [aN 6 0] (.seq (iS [aN 7 0] (.blk 0 (.loop (.seq (iS [aM 15 7,aQ 16 .lss 3 15 5,aM 17 16,iB 18 17 true (iM 1),iB 19 17 true (iM 7),iB 20 17 true (iP .add 3 18 19),iB 21 17 true (iM 0),iB 22 17 true (.len true (.t 21)),iB 23 17 true (iP .lss 3 20 22),iA 24 (iY 17 (.t 23) (oF))] (iD 24 .skip (.exit 0))) (.seq (.blk 1 (iS [aM 27 0,aM 28 1,aM 29 7,aP 30 .add 3 28 29,iA 31 (.sidx (.t 27) (.t 30)),iA 32 (.cv (.num .i64) 0 (.t 31)),aM 8 32] (iS [aM 33 6,aM 34 8,aQ 35 .rem 3 34 128,aM 36 7,iA 37 (.bin .mul 3 (oI 7) (.t 36)),aP 38 .shl 3 35 37,aP 39 .add 3 33 38,aM 6 39] (iS [aM 40 8,aQ 41 .lss 3 40 128] (iD 41 (.seq (iS [aM 42 6,iA 43 (iK 153 [42]),iA 44 (.len true (.t 43)),aM 45 7,aQ 46 .add 3 45 1,aP 47 .neq 3 44 46] (iD 47 (iS [aN 4 0,aN 5 (-1)] .ret) .skip)) (iS [aM 48 6,aM 49 1,aM 50 7,aP 51 .add 3 49 50,aQ 52 .add 3 51 1,aM 4 48,aM 5 52] .ret)) .skip))))) (.reg [aM 25 7,aQ 26 .add 3 25 1,aM 7 26])))))) (iS [aN 4 0,aN 5 (-1)] .ret))))
theorem jlF:fnC Tryz.prog Tryz.f154=some (jjm,[.t 4,.t 5],53):=by kernel_rfl
def jdU:C:=iS [iA 2 (.mov (.c (.slice none 0 0))),aO 3 false] (iS [iA 4 (.mov (.c (.slice none 0 0)))] (.seq (iS [aN 5 0] (.blk 0 (.loop (.seq (iS [aM 8 5,aM 9 0,iA 10 (.len true (.t 9)),aP 11 .lss 3 8 10] (iD 11 .skip (.exit 0))) (.blk 1 (iS [aM 13 0,aM 14 5,iA 15 (iK 154 [13,14]),aM 12 15,aE 16 12 0,aE 17 12 1,aM 6 16,aM 7 17] (.seq (iS [aM 18 7,aQ 19 .lss 3 18 0] (iD 19 (iS [iA 2 (.mov (.c (.slice none 0 0))),aO 3 false] .ret) .skip)) (iS [aM 20 4,aM 21 6,iA 22 (wA1 [(0,1,.t 21)]),iA 23 (wBA 20 22),aM 4 23] (.reg [aM 24 7,aM 5 24]))))))))) (iS [aM 25 4,aM 2 25,aO 3 true] .ret)))
theorem jgZ:fnC Tryz.prog Tryz.f102=some (jdU,[.t 2,.t 3],26):=by kernel_rfl
theorem jpX (t:ByteArray) (k:Int) (ht:t.size<=1000000000) (hk:k<=1000000000):jW Tryz.prog 154 [.c (.val (.string t)),.c (.val (.int .i64 k))] (.tup [(false,[.val (.int .i64 (vAt t k).1)]),(false,[.val (.int .i64 (vAt t k).2)])]):=by
 refine pf_ jlF ?_;unfold jjm;have e9:IntKind.i64.wrap ((t.size:Int)-1)=(t.size:Int)-1:=vF;simp only [go_sem,e9];refine jm (jw k 0 ((t.size:Int)-1)) λη=>?_
 simp only [go_sem];by_cases bW:0<=k/\k<=(t.size:Int)-1;rotate_left
 ·have hb:decide (0<=k/\k<=(t.size:Int)-1)=false:=decide_eq_false bW
  have hv:vAt t k=(0,-1):=by
   rw [vAt];split
   ·rfl
   ·rw [List.drop_eq_nil_of_le (by simp only [aQB];have:t.data.size=t.size:=rfl;omega)]
    rfl
  simp only [go_sem,hb,hv,Bool.not_false];exact jpF _ _ _ _ (by simp only [go_sem]) (by simp only [go_sem])
 have hb:decide (0<=k/\k<=(t.size:Int)-1)=true:=decide_eq_true bW;simp only [go_sem,hb,Bool.not_true];clear hb;obtain ⟨k,rfl⟩:=Int.eq_ofNat_of_zero_le bW.1
 have hv:vAt t (k:Int)=match jf9 (t.data.toList.drop k) with
  |some (v,m)=>((v:Int),(k:Int)+(m:Int))
  |none=>(0,-1):=by rw [vAt,if_neg (by omega),aNW]<;>rfl
 rw [hv];have aD:(t.data.toList.drop k).length=t.size-k:=by rw [aOI,aQB];rfl
 generalize hL:t.data.toList.drop k=L at*;refine kg (λi:Nat×Nat=>St.of [(0,.c (.v (.string t))),(1,Ni k),(6,Ni i.2),(7,Ni i.1)] []) (λi=>i.1<=5/\GoOn L i.1 i.2) (λi=>5-i.1) (0,0) (⟨by decide,GoOn.start L⟩) (ze [] (by simp only [go_sem]<;>trivial)) ?_
 rintro ⟨i,n⟩ ⟨hi,hG⟩;dsimp only at hi hG;have aJN:=hG.le;have gK:IntKind.i64.wrap ((k:Int)+(i:Int))=((k+i:Nat):Int):=by rw [kS (by omega) (by omega)];omega
 by_cases hi5:i<5;rotate_left
 ·have rQ:¬(i:Int)<5:=by omega
  rw [hG.stop (.inl (by omega))]
  simp only [go_sem,rQ];exact jpF _ _ _ _ (by simp only [go_sem]) (by simp only [go_sem])
 have rQ:(i:Int)<5:=by omega
 by_cases aB:i<L.length;rotate_left
 ·have aA:¬((k+i:Nat):Int)<(t.size:Int):=by omega
  rw [hG.stop (.inr (by omega))]
  simp only [go_sem,rQ,gK,aA];exact jpF _ _ _ _ (by simp only [go_sem]) (by simp only [go_sem])
 have aA:((k+i:Nat):Int)<(t.size:Int):=by omega
 have h0:(0:Int)<=((k+i:Nat):Int):=by omega
 obtain ⟨u,hu⟩:=ja aB;have hut:=jy6 (t:=t) (k:=k) (by rw [hL];exact hu)
 have hu8:=u.toNat_lt;have wU:IntKind.i64.wrap (7*(i:Int))=7*(i:Int):=vF;have eD:=shl_w ((u.toNat%128:Nat):Int) hi5 ⟨by omega,by omega⟩
 have fX:=hG.lt;have hpi:=pow_i hi5;have xO:(u.toNat%128)*128^i<=128*268435456:=Nat.mul_le_mul (by omega) hpi
 have yK:((u.toNat%128:Nat):Int)*((128^i:Nat):Int)=((u.toNat%128*128^i:Nat):Int):=by rw [Int.natCast_mul]
 have uQ:IntKind.i64.wrap ((n:Int)+((u.toNat%128*128^i:Nat):Int))=((n+u.toNat%128*128^i:Nat):Int):=by rw [kS (by omega) (by omega)];omega
 have gA:=kx i;have aBJ:IntKind.i64.wrap (((k+i:Nat):Int)+1)=(k:Int)+((i+1:Nat):Int):=by rw [kS (by omega) (by omega)];omega
 have cH:=λh=>hG.next hu h
 have uK:=λh=>hG.done hi5 hu h
 rw [yK] at eD;have hlen2:=jzJ (n+u.toNat%128*128^i);generalize n+u.toNat%128*128^i=N at*;simp only [go_sem,rQ,gK,aA,h0,aNW,hut,jyT,jFP,wU];refine ⟨u,rfl,by omega,?_⟩
 by_cases h8:u.toNat<128
 ·have gX:(u.toNat:Int)<128:=by omega
  have hd:=uK h8;simp only [go_sem,gX];refine jG (zY (N:Int)) (by simp only [go_sem,eD,uQ]) λη=>?_
  simp only [go_sem,eD,uQ];by_cases hc:N<=1000000000/\(vY N).length=i+1
  ·rw [if_pos hc] at hd
   have hb:(((jeb (N:Int)).size:Int) !=((i+1:Nat):Int))=false:=by rw [hlen2,if_pos hc.1,hc.2];simp
   rw [hd];simp only [go_sem,gA,hb,gK,aBJ];exact jpF _ _ _ _ (by simp only [go_sem]) (by simp only [go_sem])
  ·rw [if_neg hc] at hd
   have hb:(((jeb (N:Int)).size:Int) !=((i+1:Nat):Int))=true:=by
    rw [hlen2];simp only [bne_iff_ne,ne_eq];split
    ·rename_i g;have:¬(vY N).length=i+1:=λq=>hc ⟨g,q⟩
     omega
    ·omega
   rw [hd];simp only [go_sem,gA,hb];exact jpF _ _ _ _ (by simp only [go_sem]) (by simp only [go_sem])
 ·have gX:¬(u.toNat:Int)<128:=by omega
  simp only [go_sem,gX,gA];exact ⟨(i+1,N),⟨hi5,cH (by omega)⟩,(ze [] (by simp only [go_sem,eD,uQ]<;>trivial)),by (try dsimp only);omega⟩
def jgF (l:List UInt8):Int:=l.foldl (λn c=>256*n+(c.toNat:Int)) 0
def vM (t:ByteArray) (k:Int):Int×Bool:=if 0<=k/\k<=(t.size:Int)-4 then (jgF ((t.data.toList.drop k.toNat).take 4),true) else (0,false)
theorem jvx {B:List UInt8} {j:Nat} {u:UInt8} (h:B[j]?=some u):jgF (B.take (j+1))=256*jgF (B.take j)+(u.toNat:Int):=by
 rw [aOA,h,jgF,List.foldl_append];rfl
theorem jyn:∀(l:List UInt8) (a:Int) (n:Nat),0<=a->a<256^n->0<=l.foldl (λn c=>256*n+(c.toNat:Int)) a/\l.foldl (λn c=>256*n+(c.toNat:Int)) a<256^(n+l.length)
 |[],a,n,h0,h1=>⟨h0,h1⟩
 |c::l,a,n,h0,h1=>by
  have hc:(c.toNat:Int)<256:=by have:=UInt8.toNat_lt c;omega
  have:=jyn l (256*a+(c.toNat:Int)) (n+1) (by omega) (by rw [Int.pow_succ];omega)
  rw [aQI,aOD,show n+(l.length+1)=n+1+l.length by omega]
  exact this
theorem jEa (l:List UInt8) (h:l.length<=4):0<=jgF l/\jgF l<4294967296:=by
 have h1:=jyn l 0 0 (by omega) (by decide)
 refine ⟨h1.1,Int.lt_of_lt_of_le h1.2 ?_⟩;rw [aPH];have:l.length=0\/l.length=1\/l.length=2\/l.length=3\/l.length=4:=by omega
 rcases this with e|e|e|e|e<;>rw [e]<;>decide
theorem jyf (s:ByteArray) (k:Int) (w:World) (hs:s.size<=1000000000) (cB:-1000000000<=k) (oV:k<=1000000000):
 Calls Tryz.prog 96 #[.string s,.int .i64 k] w λe w'=>e=.returned (.tuple #[.int .i64 (vM s k).1,.bool (vM s k).2])/\Below w.heap.size w w':=by
 have hS:=Lib.hid hs;have hw4:IntKind.i64.wrap ((s.size:Int)-4)=(s.size:Int)-4:=vF;by_cases bW:0<=k/\k<=(s.size:Int)-4
 ·have hib:inb k 0 ((s.size:Int)-4)=true:=decide_eq_true bW
  obtain ⟨k,rfl⟩:=Int.eq_ofNat_of_zero_le bW.1;have hkz:k+4<=s.size:=by omega
  have hw5:IntKind.i64.wrap ((k:Int)+4)=((k+4:Nat):Int):=vF;have pY:vM s (k:Int)=(jgF ((s.data.toList.drop k).take 4),true):=by rw [vM,if_pos bW,aNW]
  rw [pY];generalize hB:(s.data.toList.drop k).take 4=B at*
  go_enter Tryz.func96,Tryz.ntmps96
  go_wp2_with (go_at_call 62;refine (ve _ _ _ _).mono ?_;rintro e2 w2 ⟨rfl,bM⟩)
  have hcv:=Lib.run_convert_string_bytes (P:=Tryz.prog) w2 9 22 5 (s.extract k (k+4)) (u:=.string) (by kernel_rfl) (by kernel_rfl) (by kernel_rfl)
  have hbw:=Lib.bytesWorld_below w2 5 (s.extract k (k+4));have cV:=Lib.bytesWorld_cell w2 5 (s.extract k (k+4));generalize Lib.bytesWorld w2 5 (s.extract k (k+4))=W1 at hcv hbw cV;have hez:(s.extract k (k+4)).size=4:=by rw [ByteArray.size_extract];omega
  have hed:(s.extract k (k+4)).data.toList=B:=by
   rw [<-hB,ByteArray.data_extract,Array.toList_extract,List.extract_eq_take_drop]
   congr 1;omega
  rw [hez,hed] at cV;rw [hez] at hcv
  have hBl:B.length=4:=by
   rw [<-hB,aNV,aOI,aQB];have:s.data.size=s.size:=rfl;omega
  rw [hcv];clear hcv hed hez hB
  go_wp2
  go_loopw [6,8,22] (λn _ i wr=>∃j:Nat,j<=4/\i=.int .i64 j/\n=.int .i64 (jgF (B.take j))/\wr=W1) (λ_ _ i _=>4-(RowKit.intOf i).toNat)
  case atStart=>exact ⟨0,by omega,rfl,rfl,rfl⟩
  case round=>
   obtain ⟨j,hj,rfl,rfl,rfl⟩:=hrel;by_cases aB:j<4
   ·obtain ⟨u,hu⟩:=ja (show j<B.length by omega)
    have p0:=cV j aB;have hug:B.getD j 0=u:=by rw [List.getD,hu];rfl
    rw [hug] at p0;have aH:=jvx hu;have hB4:(B.take j).length<=4:=by rw [aNV];omega
    have hb4:=jEa (B.take j) hB4;have nW:=UInt8.toNat_lt u;have e9:IntKind.i64.wrap (256*jgF (B.take j))=256*jgF (B.take j):=vF;have hw3:IntKind.i64.wrap (u.toNat:Int)=(u.toNat:Int):=vF;have bV:IntKind.i64.wrap (256*jgF (B.take j)+IntKind.i64.wrap (u.toNat:Int))=jgF (B.take (j+1)):=by rw [hw3,aH];exact kS (by omega) (by omega)
    clear cV
    go_wp2
    go_roundw
    case rel=>exact ⟨j+1,by omega,by go_num,congrArg (Value.int .i64) aH.symm,trivial⟩
    case measure=>simp [RowKit.intOf];omega
   ·obtain rfl:j=4:=by omega
    clear cV;have hB4:B.take 4=B:=aNU (by omega)
    rw [hB4]
    go_wp2
    go_ret2
    exact ⟨by simp,kj bM hbw⟩
 ·have hib:inb k 0 ((s.size:Int)-4)=false:=decide_eq_false bW
  have pY:vM s k=(0,false):=by rw [vM,if_neg bW]
  rw [pY]
  go_enter Tryz.func96,Tryz.ntmps96
  go_wp2_with (go_at_call 62;refine (ve _ _ _ _).mono ?_;rintro e2 w2 ⟨rfl,bM⟩)
  go_ret2
  exact ⟨rfl,bM⟩
theorem joi (t:ByteArray) (k:Int) (hs:t.size<=1000000000) (cB:-1000000000<=k) (oV:k<=1000000000):jW Tryz.prog 96 [.c (.val (.string t)),.c (.val (.int .i64 k))] (.tup [(false,[.val (.int .i64 (vM t k).1)]),(false,[.val (.bool (vM t k).2)])]):=by
 refine ⟨⟨_,Tryz.func96,by kernel_rfl,by kernel_rfl⟩,λw xs hv=>?_⟩
 obtain ⟨a,xs,rfl,h1,hv⟩:=hv;obtain ⟨b,xs,rfl,h2,hv⟩:=hv;obtain rfl:xs=[]:=hv;rw [zU h1,zU h2];refine (jyf t k w hs cB oV).mono ?_;rintro e w' ⟨rfl,hb⟩;refine ⟨_,[],rfl,?_,Fresh.nil _,hb⟩;refine ⟨[.int .i64 (vM t k).1,.bool (vM t k).2],rfl,?_⟩;refine ⟨_,_,[.int .i64 (vM t k).1],[],[],rfl,rfl,⟨_,_,[],[],rfl,rfl,⟨rfl,rfl⟩,rfl,rfl⟩,rfl,?_⟩;exact ⟨_,_,[.bool (vM t k).2],[],[],rfl,rfl,⟨_,_,[],[],rfl,rfl,⟨rfl,rfl⟩,rfl,rfl⟩,rfl,rfl,rfl⟩
def jbl:C:=iS [iA 1 (.box 49 5 (.t 0)),iA 2 (.mov (.c (.slice none 0 0)))] (iS [aF 6 0 1,aL 7 6,aF 8 1 1,aL 9 8,aF 10 2 1,aL 11 10,aF 12 3 1,aL 13 12,aF 14 4 1,aL 15 14,aG 16 15,iA 17 (.bsl 3 1 5 [none,none,none,none,none] [(0,1,.t 7),(1,1,.t 9),(2,1,.t 11),(3,1,.t 13),(4,1,.t 16)]),aM 3 17] (.seq (iS [aF 18 4 1,aL 19 18,aG 20 19,aN 21 0] (.blk 0 (.loop (iS [aP 22 .lss 3 21 20] (.seq (iD 22 .skip (.exit 0)) (.seq (.blk 1 (iS [aI 23 2 19 21,aT 24 2 23,iA 5 wAP,wAH 5 24] (.reg [aM 25 3,aF 26 0 5,aL 27 26,aF 28 1 5,aL 29 28,iA 30 (wA6 [(0,1,.t 27),(1,1,.t 29)]),iA 31 (wBA 25 30),aM 3 31]))) (.reg [aQ 32 .add 3 21 1,aM 21 32]))))))) (iS [aM 33 3,aM 2 33] .ret)))
theorem jdD:fnC Tryz.prog Tryz.f100=some (jbl,[.t 2],34):=by kernel_rfl
def jd0:C:=iS [iA 1 (.box 27 4 (.t 0)),iA 2 (.mov (.c (.string ⟨⟨[]⟩⟩)))] (.seq (iS [aT 12 4 1,iA 13 (iK 18 [12]),aU 14 13] (iD 14 (iS [iA 2 (.mov (.c (.string ⟨⟨[]⟩⟩)))] .ret) .skip)) (iS [aF 15 0 1,aL 16 15,aF 17 1 1,aL 18 17,iA 19 (wA6 [(0,1,.t 16),(1,1,.t 18)]),aM 3 19] (.seq (iS [aF 20 2 1,aL 21 20,aG 22 21,aN 23 0] (.blk 0 (.loop (iS [aP 24 .lss 3 23 22] (.seq (iD 24 .skip (.exit 0)) (.seq (.blk 1 (iS [aI 25 1 21 23,aL 26 25,aM 5 26] (iS [aM 27 3,aM 28 5,aG 29 28,iA 30 (wA1 [(0,1,.t 29)]),iA 31 (wBA 27 30),aM 3 31] (iS [aM 32 5,aG 33 32,aN 34 0] (.blk 2 (.loop (iS [aP 35 .lss 3 34 33] (.seq (iD 35 .skip (.exit 2)) (.seq (.blk 3 (iS [aI 36 4 32 34,aT 37 4 36,iA 7 wAQ,wAB 7 37] (.reg [aM 38 3,aF 39 0 7,aL 40 39,aF 41 1 7,aL 42 41,aF 43 2 7,aL 44 43,aF 45 3 7,aL 46 45,iA 47 (.bsl 3 1 4 [none,none,none,none] [(0,1,.t 40),(1,1,.t 42),(2,1,.t 44),(3,1,.t 46)]),iA 48 (wBA 38 47),aM 3 48]))) (.reg [aQ 49 .add 3 34 1,aM 34 49])))))))))) (.reg [aQ 50 .add 3 23 1,aM 23 50]))))))) (iS [aM 51 3,aF 52 3 1,aL 53 52,aG 54 53,iA 55 (wA1 [(0,1,.t 54)]),iA 56 (wBA 51 55),aM 3 56] (.seq (iS [aF 57 3 1,aL 58 57,aG 59 58,aN 60 0] (.blk 4 (.loop (iS [aP 61 .lss 3 60 59] (.seq (iD 61 .skip (.exit 4)) (.seq (.blk 5 (iS [aI 62 8 58 60,aT 63 8 62,iA 9 wAN,wAC 9 63] (.seq (.dreg (tA 0 64 (iM 3) (tA 1 65 (iF 0 9) (tA 2 66 (iL 65) (tA 5 69 (iF 1 9) (tA 6 70 (iT 5 69) (tC 67 (wA1 [(0,1,.t 66)]) [6,5,0] (tC 68 (wBA 64 67) [6,5] (tC 71 (iK 100 [70]) [] (tC 72 (wBA 68 71) [] (tA 9 3 (iM 72) .done) .stop) .stop) .stop) .stop))))))) (iS [aM 73 3,aF 74 6 9,aL 75 74,iA 76 (wA1 [(0,1,.t 75)]),iA 77 (wBA 73 76),aM 3 77] (iS [aF 78 7 9,aL 79 78,aG 80 79,aN 81 0] (.blk 6 (.loop (iS [aP 82 .lss 3 81 80] (.seq (iD 82 .skip (.exit 6)) (.seq (.blk 7 (iS [aI 83 4 79 81,aT 84 4 83,iA 11 wAO,wAB 11 84] (.reg [aM 85 3,aF 86 0 11,aL 87 86,aF 88 1 11,aL 89 88,aF 90 2 11,aL 91 90,aF 92 3 11,aL 93 92,iA 94 (.bsl 3 1 4 [none,none,none,none] [(0,1,.t 87),(1,1,.t 89),(2,1,.t 91),(3,1,.t 93)]),iA 95 (wBA 85 94),aM 3 95]))) (.reg [aQ 96 .add 3 81 1,aM 81 96]))))))))))) (.reg [aQ 97 .add 3 60 1,aM 60 97]))))))) (iS [aM 98 3,iA 99 (iK 101 [98]),aM 2 99] .ret))))))
theorem jg4:fnC Tryz.prog Tryz.f39=some (jd0,[.t 2],100):=by kernel_rfl
theorem jGv (a b:Int):D.sl 1 jeP [.val (.int .i64 a),.val (.int .i64 b)]=jb [a,b]:=rfl
theorem jGu (a b c d e:Int):D.sl 1 jeP [.val (.int .i64 a),.val (.int .i64 b),.val (.int .i64 c),.val (.int .i64 d),.val (.int .i64 e)]=jb [a,b,c,d,e]:=rfl
theorem jm8 (l:List Int) (a b c d:Int):D.sl 1 jeP (l.flatMap (λn=>[iv n])++[.val (.int .i64 a),.val (.int .i64 b),.val (.int .i64 c),.val (.int .i64 d)])=jb (l++[a,b,c,d]):=by simp [jb]
theorem jDZ (l m:List Int):l.flatMap (λn=>[iv n])++m.flatMap (λn=>[iv n])=(l++m).flatMap (λn=>[iv n]):=aPK.symm
def jrM (L:List Int) (p:Pl) (k:Nat):List Int:=L++[p.aNI,p.aNN,p.aNM,p.aNA,(p.aNF.length:Int)]++(p.aNF.take k).flatMap edI
def jwV (L:List Int) (l:List En) (k:Nat):List Int:=L++[(l.length:Int)]++(l.take k).flatMap enI
def yI1 (y:Yd) (k:Nat):List Int:=[y.now,y.seq]++(y.aNC.take k).flatMap shI
def jxd (L:List Int) (r:Rn) (k:Nat):List Int:=L++[r.aND]++(r.aNA.take k).flatMap tkI
def yI2 (L:List Int) (y:Yd) (k:Nat):List Int:=L++[(y.aNE.length:Int)]++(y.aNE.take k).flatMap rnI
theorem jFl (L:List Int) (l:List En):jwV L l 0=L++[(l.length:Int)]:=by simp [jwV]
theorem yI1_0 (y:Yd):yI1 y 0=[y.now,y.seq]:=by simp [yI1]
theorem jFF (L:List Int) (r:Rn):jxd L r 0=L++[r.aND]:=by simp [jxd]
theorem yI2_0 (L:List Int) (y:Yd):yI2 L y 0=L++[(y.aNE.length:Int)]:=by simp [yI2]
theorem jF2 {L:List Int} {p:Pl} {k:Nat} {x:Ed} (h:p.aNF[k]?=some x):jrM L p (k+1)=jrM L p k++[x.src,x.dst]:=by simp only [jrM,jll h,edI,aOB]
theorem jFk {L:List Int} {l:List En} {k:Nat} {x:En} (h:l[k]?=some x):jwV L l (k+1)=jwV L l k++[x.aNI,x.seq,x.run,x.aNH]:=by simp only [jwV,jll h,enI,aOB]
theorem jFE {L:List Int} {r:Rn} {k:Nat} {x:Tk} (h:r.aNA[k]?=some x):jxd L r (k+1)=jxd L r k++[x.aND,x.aNL,x.tri,x.til]:=by simp only [jxd,jll h,tkI,aOB]
theorem yI1_s {y:Yd} {k:Nat} {l:List En} (h:y.aNC[k]?=some l):yI1 y (k+1)=jwV (yI1 y k) l l.length:=by simp [yI1,jll h,jwV,shI]
theorem yI2_s {L:List Int} {y:Yd} {k:Nat} {r:Rn} (h:y.aNE[k]?=some r):yI2 L y (k+1)=jxd (jrM (yI2 L y k++[r.id]) r.aNB r.aNB.aNF.length) r r.aNA.length:=by simp [yI2,jll h,jxd,rnI,jrM,plI]
theorem jF5 (p:Pl):jrM [] p p.aNF.length=plI p:=by simp [jrM,plI]
theorem jF3 (p:Pl):jrM [] p 0=[p.aNI,p.aNN,p.aNM,p.aNA,(p.aNF.length:Int)]:=by simp [jrM]
theorem jF4 (L:List Int) (p:Pl):jrM L p p.aNF.length=L++plI p:=by simp [jrM,plI]
theorem yI_e (y:Yd):yI2 (yI1 y y.aNC.length) y y.aNE.length=jb7 y:=by simp [yI2,yI1,jb7]
theorem jDy (L:List Int) (p:Pl) (k:Nat):(jrM L p k).length<=L.length+5+2*p.aNF.length:=by
 have:=jbP (f:=edI) (c:=2) (L:=p.aNF) (λ_ _=>aOC 2) k
 simp only [jrM,aNR,aOD,aOR];omega
theorem jC1 (L:List Int) (l:List En) (k:Nat):(jwV L l k).length<=L.length+1+4*l.length:=by
 have:=jbP (f:=enI) (c:=4) (L:=l) (λ_ _=>aOC 4) k
 simp only [jwV,aNR,aOD,aOR];omega
theorem jDp (L:List Int) (r:Rn) (k:Nat):(jxd L r k).length<=L.length+1+4*r.aNA.length:=by
 have:=jbP (f:=tkI) (c:=4) (L:=r.aNA) (λ_ _=>aOC 4) k
 simp only [jxd,aNR,aOD,aOR];omega
theorem jEO {y:Yd} (h:YardOkP y) (k:Nat):(yI1 y k).length<=1400:=by
 have:=jbP (f:=shI) (c:=330) (L:=y.aNC) (λl hl=>jBQ (h.shelves l hl)) k
 have:=h.four;simp only [yI1,aNR,aOD,aOR];omega
theorem jEN {L:List Int} {y:Yd} (h:YardOkP y) (k:Nat):(yI2 L y k).length<=L.length+1000:=by
 have:=jbP (f:=rnI) (c:=120) (L:=y.aNE) (λr hr=>jBX (h.right r hr)) k
 have:=h.eight;simp only [yI2,aNR,aOD,aOR];omega
theorem jgp (p:Pl) (hb:p.aNF.length<=4000000):jW Tryz.prog 100 [.agg (jd p)] (.c (jb (plI p))):=by
 refine pf_ jdD ?_;unfold jbl;simp only [go_sem,jd,jGu];intro b1 cI;refine qY (λi:Nat×jf=>St.of [(3,Hd 3 i.2),(19,Ro (js p.aNF)),(20,Ni p.aNF.length),(21,Ni i.1)] [(3,.loose (jb (jrM [] p i.1)) i.2)]) (λi=>i.1<=p.aNF.length) (λi=>p.aNF.length-i.1) (0,cI) (jt [1700] (by simp only [go_sem,jF3]<;>trivial)) ?_
 rintro ⟨k,η⟩ hk;dsimp only at hk;by_cases aB:k<p.aNF.length
 ·have aA:(k:Int)<p.aNF.length:=by omega
  obtain ⟨x,hx⟩:=ja aB;have hw:=kx k;have fY:=jF2 (L:=[]) hx;have cE:=jDy [] p k;rw [aOR] at cE;generalize jrM [] p k=L at*;have cW:L.length+2<=maxLen:=zy;have bI:(L.length+2)*8<=140737488355328:=by omega
  simp only [go_sem,aB,aA,jD hx,jK,cW,bI,jm9,hw];intro b5 tN rC;exact qf (k+1,rC) (jt [3100] (by simp only [go_sem,fY]<;>trivial))
 have aA:¬(k:Int)<p.aNF.length:=by omega
 obtain rfl:k=p.aNF.length:=by omega
 simp only [go_sem,aA,jF5]
theorem jdn (y:Yd) (ht:jn y<=2000000):jW Tryz.prog 39 [.agg (jc y)] (.c (.val (.string (qS y)))):=by
 refine pf_ jg4 ?_;unfold jd0;simp only [go_sem,jc];intro b1;refine jm (kK y ht) λη=>?_
 simp only [go_sem];cases aR:ju y
 ·have hb:qS y=⟨⟨[]⟩⟩:=by simp [qS,aR]
  simp only [go_sem,hb]
 have hY:=yard_iff.1 aR;have hb:qS y=jl4 (jb7 y):=by simp [qS,aR]
 have h4:=hY.four;have h8:=hY.eight;simp only [go_sem,jGv];intro tO;refine qY (λi:Nat×jf=>St.of [(1,Bx 100 b1),(3,Hd 3 i.2),(21,Ro (ki y.aNC)),(22,Ni y.aNC.length),(23,Ni i.1)] [(100,Bi b1 _ (jc y)),(3,.loose (jb (yI1 y i.1)) i.2)]) (λi=>i.1<=y.aNC.length) (λi=>y.aNC.length-i.1) (0,tO) (jt [100,1900] (by simp only [go_sem,jc,yI1_0]<;>trivial)) ?_
 rintro ⟨k,η⟩ hk;dsimp only at hk;have p9:=jEO hY k;by_cases aB:k<y.aNC.length
 ·have aA:(k:Int)<y.aNC.length:=by omega
  obtain ⟨l,hl⟩:=ja aB;have h80:=(hY.shelves l (aNQ hl)).aNN;have hw:=kx k;have fY:=yI1_s hl;generalize yI1 y k=L at*;have m1:L.length+1<=maxLen:=zy;have m2:(L.length+1)*8<=140737488355328:=by omega
  simp only [go_sem,jc,aB,aA,qg hl,m1,m2,kT];intro tN rC;refine qY (λi:Nat×jf=>St.of [(1,Bx 100 b1),(3,Hd 3 i.2),(21,Ro (ki y.aNC)),(22,Ni y.aNC.length),(23,Ni k),(32,Ro (jg l)),(33,Ni l.length),(34,Ni i.1)] [(100,Bi b1 _ (jc y)),(3,.loose (jb (jwV L l i.1)) i.2)]) (λi=>i.1<=l.length) (λi=>l.length-i.1) (0,rC) (jt [100,3100] (by simp only [go_sem,jc,jFl]<;>trivial)) ?_
  rintro ⟨j,sF⟩ hj;dsimp only at hj;by_cases bN:j<l.length
  ·have a9:(j:Int)<l.length:=by omega
   obtain ⟨e,he⟩:=ja bN;have dF:=kx j;have hnj:=jFk (L:=L) he;have hMl:=jC1 L l j;generalize jwV L l j=M at*;have p1:M.length+4<=maxLen:=zy;have p2:(M.length+4)*8<=140737488355328:=by omega
   simp only [go_sem,jc,bN,a9,jZ he,jk,p1,p2,jm8,dF];intro b7 aHB wL;exact qf (j+1,wL) (jt [100,4800] (by simp only [go_sem,hnj]<;>trivial))
  have a9:¬(j:Int)<l.length:=by omega
  obtain rfl:j=l.length:=by omega
  rw [<-fY];simp only [go_sem,jc,a9,hw];exact qf (k+1,sF) (jt [100,3])
 have aA:¬(k:Int)<y.aNC.length:=by omega
 obtain rfl:k=y.aNC.length:=by omega
 have hye:=yI_e y;generalize yI1 y y.aNC.length=L1 at*;have m1:L1.length+1<=maxLen:=zy;have m2:(L1.length+1)*8<=140737488355328:=by omega
 simp only [go_sem,jc,aA,m1,m2,kT];intro aHA aAW;refine qY (λi:Nat×jf=>St.of [(3,Hd 3 i.2),(58,Ro (jE y.aNE)),(59,Ni y.aNE.length),(60,Ni i.1)] [(3,.loose (jb (yI2 L1 y i.1)) i.2)]) (λi=>i.1<=y.aNE.length) (λi=>y.aNE.length-i.1) (0,aAW) (jt [5600] (by simp only [go_sem,yI2_0]<;>trivial)) ?_
 rintro ⟨m,ηm⟩ hm;dsimp only at hm;have oN:=jEN (L:=L1) hY m;by_cases eA:m<y.aNE.length
 ·have eL:(m:Int)<y.aNE.length:=by omega
  obtain ⟨r,hr⟩:=ja eA;obtain ⟨n,hn,d9,cF,dH,-⟩:=jbJ (hY.right r (aNQ hr)).aNB;have aD:=(hY.right r (aNQ hr)).len;have hw:=kx m;have z4:=yI2_s (L:=L1) hr;rw [jF4] at z4;generalize yI2 L1 y m=L2 at*;have gD:=jB2 dH;have q1:L2.length+1<=maxLen:=zy;have q2:(L2.length+1)*8<=140737488355328:=by omega
  obtain ⟨L2',hs⟩:∃L2',L2++[r.id]=L2':=⟨_,rfl⟩;have fJ:L2'.length=L2.length+1:=by rw [<-hs];simp
  rw [hs] at z4;have q3:L2'.length+(plI r.aNB).length<=maxLen:=zy;have q4:(L2'.length+(plI r.aNB).length)*8<=140737488355328:=by omega
  simp only [go_sem,eA,eL,jT hr,je,jd,q1,q2,kT,hs];intro b9 aGZ aAV;obtain ⟨L3,yT⟩:∃L3,L2'++plI r.aNB=L3:=⟨_,rfl⟩;have aKU:L3.length=L2'.length+(plI r.aNB).length:=by rw [<-yT];simp
  rw [yT] at z4;have q5:L3.length+1<=maxLen:=zy;have q6:(L3.length+1)*8<=140737488355328:=by omega
  refine jm (jgp r.aNB (by omega)) λη=>?_
  simp only [go_sem,q3,q4,jDZ,yT,q5,q6,kT];intro aGY aGX aAU;refine qY (λi:Nat×jf=>St.of [(3,Hd 3 i.2),(58,Ro (jE y.aNE)),(59,Ni y.aNE.length),(60,Ni m),(79,Ro (jx r.aNA)),(80,Ni r.aNA.length),(81,Ni i.1)] [(3,.loose (jb (jxd L3 r i.1)) i.2)]) (λi=>i.1<=r.aNA.length) (λi=>r.aNA.length-i.1) (0,aAU) (jt [7700] (by simp only [go_sem,jFF]<;>trivial)) ?_
  rintro ⟨j,sF⟩ hj;dsimp only at hj;by_cases bN:j<r.aNA.length
  ·have a9:(j:Int)<r.aNA.length:=by omega
   obtain ⟨e,he⟩:=ja bN;have dF:=kx j;have hnj:=jFE (L:=L3) he;have hMl:=jDp L3 r j;generalize jxd L3 r j=M at*;have p1:M.length+4<=maxLen:=zy;have p2:(M.length+4)*8<=140737488355328:=by omega
   simp only [go_sem,bN,a9,jP he,jH,p1,p2,jm8,dF];intro b7 aGW aAT;exact qf (j+1,aAT) (jt [9500] (by simp only [go_sem,hnj]<;>trivial))
  have a9:¬(j:Int)<r.aNA.length:=by omega
  obtain rfl:j=r.aNA.length:=by omega
  rw [<-z4];simp only [go_sem,a9,hw];exact qf (m+1,sF) (jt [3])
 have eL:¬(m:Int)<y.aNE.length:=by omega
 obtain rfl:m=y.aNE.length:=by omega
 rw [hye] at oN⊢;simp only [go_sem,eL];refine jm (jrS (jb7 y) (by omega)) λη=>?_
 simp only [go_sem];simp only [go_sem,hb]
