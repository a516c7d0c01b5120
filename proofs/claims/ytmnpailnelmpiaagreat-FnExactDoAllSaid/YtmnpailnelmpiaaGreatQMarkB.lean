/- Parts. -/
import Derived.Test.YtmnpailnelmpiaaGreatQOpen
set_option linter.unusedSimpArgs false
set_option linter.unusedVariables false
set_option maxHeartbeats 8000000
namespace Go.Proofs.YtmnpailnelmpiaaGreat
open Go.RowKit Go.Sort Go.BigFrame
theorem ctm {w w1:World} {b o:Nat} {v:Value} (hB:Below w.heap.size w w1) (h:w.cell? ⟨b,o,none⟩=some v):w1.cell? ⟨b,o,none⟩=some v:=
 (hB.cell (p:=⟨b,o,none⟩) (World.block_lt_of_cell? w _ h)).trans h
def mkR {α:Type} (mk:Int→α) (n:Int) (m:Nat) (k:Int):List α:=(List.range m).map fun (i:Nat)=>mk (k+n*(i:Int))
theorem kb {α:Type} (mk:Int→α) (n:Int) (m:Nat) (k:Int):(mkR mk n m k).length=m:=by simp [mkR]
theorem jb7 {α:Type} (mk:Int→α) (n:Int) (m:Nat) (k:Int) {i:Nat} (h:i<m):(mkR mk n m k)[i]?=some (mk (k+n*(i:Int))):=by simp [mkR,h]
def mh {α:Type} (m l:List α) (i:Nat):List α:=m.take i++l.drop i
theorem jdY {α:Type} (m l:List α):mh m l 0=l:=by simp [mh]
theorem jdZ {α:Type} {m l:List α} (h:m.length=l.length):mh m l l.length=m:=by rw [mh,←h,List.take_length,h,List.drop_length,List.append_nil]
theorem kG {α:Type} {m l:List α} (h:m.length=l.length) (i:Nat):(mh m l i).length=l.length:=by simp only [mh,List.length_append,List.length_take,List.length_drop];omega
theorem jiv {α:Type} {m l:List α} (h:m.length=l.length) {i:Nat} {x:α} (hx:l[i]?=some x):(mh m l i)[i]?=some x:=by
 have hi:i<l.length:=(List.getElem?_eq_some_iff.1 hx).1;have e:(m.take i).length=i:=by rw [List.length_take];omega
 rw [mh,List.getElem?_append_right (by omega),e,Nat.sub_self,List.getElem?_drop]
 simpa using hx
theorem jiu {α:Type} {m l:List α} (h:m.length=l.length) {i:Nat} {y:α} (hy:m[i]?=some y):(mh m l i).set i y=mh m l (i+1):=by
 have hi:i<m.length:=(List.getElem?_eq_some_iff.1 hy).1;have e:(m.take i).length=i:=by rw [List.length_take];omega
 rw [mh,mh,List.set_append_right _ _ (by omega),e,Nat.sub_self,List.take_add_one,hy,List.append_assoc,List.drop_eq_getElem_cons (by omega:i<l.length)]
 rfl
theorem km {α:Type} {l:List α} {k:Nat} {x y:α} (hx:l[k]?=some x):(l.set k y)[k]?=some y:=by
 have:=(List.getElem?_eq_some_iff.1 hx).1;simp [this]
theorem jO {α:Type} {enc:α→List D} {w:World} {ty:TypeId} {xs:List α} {S:List Nat} {g n c k size:Nat} (hl:∀x,(enc x).length=size) (hs:0<size) (h:Rep w true (.sl size ty (xs.flatMap enc)) (.slice (some ⟨g,0,none⟩) n c) S) (hk:k<xs.length) (j:Nat) (hj:j<size):
 (∃u,w.cell? ⟨g,k*size+j,none⟩=some u)∧w.frozen? ⟨g,k*size+j,none⟩=false:=by
 obtain ⟨vs,S1,hown,hrl,rfl⟩:=Rep.own hl hs h
 have hn:n=xs.length:=by
  rcases hown.2 with ⟨e,_⟩|⟨g',cap',cur,e,_⟩
  ·cases e
  ·simp only [Value.slice.injEq] at e;exact e.2.1
 subst hn;have hb:k*size+size≤xs.length*size:=by rw [←Nat.succ_mul];exact Nat.mul_le_mul_right _ hk
 have:=jeA hown (k*size) size hb j hj;exact ⟨Option.isSome_iff_exists.1 (by simpa using this.1),by simpa using this.2⟩
def jek (k:Int):Ed:=⟨k,k+1⟩
theorem jix (l:List Ed) (k:Int) (v:Value) (S:List Nat) (B:Nat) (w:World) (ha:Rep w true (jB l) v S) (hF:Fresh B S) (h0:0≤k) (h1:k+2*(l.length:Int)≤4611686018427387904):
 Calls Tryz.prog 127 #[v,.int .i64 k] w fun e w'=>e=.returned (.int .i64 (k+2*(l.length:Int)))∧Rep w' true (jB (mkR jek 2 l.length k)) v S∧Only S w w':=by
 obtain ⟨A,c,rfl,hc1,hc2,-⟩:=Rep.open_ (size:=2) (enc:=jI) (fun _=>rfl) (by decide) ha
 unfold maxLen at hc2;have hl1:l.length≤4611686018427387904:=by omega
 go_enter Tryz.func127,Tryz.ntmps127
 go_wp2
 go_loopw [1,5] (fun q i wr=>∃j:Nat,j≤l.length∧i=.int .i64 j∧q=.int .i64 (k+2*(j:Int))∧Rep wr true (jB (mh (mkR jek 2 l.length k) l j)) (.slice A l.length c) S∧Only S w wr) (fun _ i _=>l.length-(intOf i).toNat)
 case atStart=>exact ⟨0,by omega,rfl,by simp,by rw [jdY];exact ha,Only.refl _ _⟩
 case round=>
  obtain ⟨i,hi,rfl,rfl,hrep,hon⟩:=hrel;by_cases hlt:i<l.length
  ·obtain ⟨x,hx⟩:=je hlt
   have hmx:=jiv (kb jek 2 l.length k) hx;have HM:=Lib.hid hmx;have HX:=Lib.hid hx;obtain ⟨g,rfl,-,hg1,hg,-⟩:=Rep.head (enc:=jI) (size:=2) (xs:=mh (mkR jek 2 l.length k) l i) (fun _=>rfl) (by decide) hrep (by rw [kG (kb _ _ _ _)];omega)
   ·skip
    obtain ⟨⟨u0,hu0⟩,hz0⟩:=jO (enc:=jI) (size:=2) (fun _=>rfl) (by decide) hrep (by rw [kG (kb _ _ _ _)];exact hlt) 0 (by decide)
    obtain ⟨⟨u1,hu1⟩,hz1⟩:=jO (enc:=jI) (size:=2) (fun _=>rfl) (by decide) hrep (by rw [kG (kb _ _ _ _)];exact hlt) 1 (by decide)
    rw [Nat.add_zero] at hu0 hz0;have HR:=Lib.hid hrep;clear hmx hx;have hq0:0≤k+2*(i:Int):=by omega
    have hq1:k+2*(i:Int)≤4611686018427387904:=by omega
    go_wp2
    go_roundw
    case rel=>
     have hmx:=HM.out;obtain ⟨hr1,ho1,-⟩:=Rep.setField (enc:=jI) (size:=2) (fun _=>rfl) (by decide) hrep hmx 0 (by decide) (.int .i64 (k+2*(i:Int))) (y:=(⟨k+2*(i:Int),x.dst⟩:Ed)) (fun vk Sk h=>by obtain ⟨rfl,rfl⟩:=za h;exact jwd _ _ _) hF
     rw [Nat.add_zero] at hr1 ho1;have hm1:=km (y:=(⟨k+2*(i:Int),x.dst⟩:Ed)) hmx;obtain ⟨hr2,ho2,-⟩:=Rep.setField (enc:=jI) (size:=2) (fun _=>rfl) (by decide) hr1 hm1 1 (by decide) (.int .i64 (k+2*(i:Int)+1)) (y:=(⟨k+2*(i:Int),k+2*(i:Int)+1⟩:Ed)) (fun vk Sk h=>by obtain ⟨rfl,rfl⟩:=za h;exact jwd _ _ _) hF
     have hm2:=km (y:=(⟨k+2*(i:Int),k+2*(i:Int)+1⟩:Ed)) hm1;simp only [List.set_set] at hr2;refine ⟨i+1,by omega,by go_num,by go_num,?_,hon.trans ((ho1).trans ho2 (fun t h=>.inl h)) (fun t h=>.inl (by simp only [List.mem_singleton] at h;subst h;exact hg1))⟩
     rw [←jiu (kb _ _ _ _) (jb7 jek 2 l.length k hlt)];exact hr2
    case measure=>simp [intOf];omega
  ·obtain rfl:i=l.length:=by omega
   go_wp2
   go_ret
   exact ⟨rfl,by rw [←jdZ (kb jek 2 l.length k)];exact hrep,hon⟩
theorem jom (m:Nat) (k:Int) (v:Value) (S:List Nat) (w:World) (own:Bool) (ha:Rep w own (jB (mkR jek 2 m k)) v S) (h0:0≤k) (h1:k+2*(m:Int)≤4611686018427387904):
 Calls Tryz.prog 178 #[v,.int .i64 k] w fun e w'=>e=.returned (.int .i64 (k+2*(m:Int)))∧Below w.heap.size w w':=by
 obtain ⟨A,c,rfl,hc1,hc2,hca⟩:=Rep.open_ (size:=2) (enc:=jI) (fun _=>rfl) (by decide) ha
 rw [kb] at*;unfold maxLen at hc2;have hl1:m≤4611686018427387904:=by omega
 clear ha
 go_enter Tryz.func178,Tryz.ntmps178
 go_wp2
 go_loopw [1,5] (fun q i wr=>∃j:Nat,j≤m∧i=.int .i64 j∧q=.int .i64 (k+2*(j:Int))∧Below w.heap.size w wr) (fun _ i _=>m-(intOf i).toNat)
 case atStart=>exact ⟨0,by omega,rfl,by simp,Below.refl _ _⟩
 case round=>
  obtain ⟨i,hi,rfl,rfl,hbel⟩:=hrel;by_cases hlt:i<m
  ·obtain ⟨b1,o1,vk1,T1,rfl,-,hr1,-,-,hb1,hx1⟩:=hca i _ (jb7 jek 2 m k hlt)
   clear hca
   ·skip
    obtain ⟨rfl,rfl⟩:=za hr1;have p0:=ctm (b:=b1) (o:=o1+i*2) hbel (hx1 0 _ rfl);have p1:=ctm (b:=b1) (o:=o1+i*2+1) hbel (hx1 1 _ rfl);simp only [jek] at p0 p1;clear hx1;have hq0:0≤k+2*(i:Int):=by omega
    have hq1:k+2*(i:Int)≤4611686018427387904:=by omega
    go_wp2
    go_roundw
    case rel=>exact ⟨i+1,by omega,by go_num,by go_num,hbel⟩
    case measure=>simp [intOf];omega
  ·obtain rfl:i=m:=by omega
   clear hca
   go_wp2
   go_ret
   exact ⟨rfl,hbel⟩
def juF (k:Int):En:=⟨k,k+1,k+1+1,k+1+1+1⟩
theorem jmz (l:List En) (k:Int) (v:Value) (S:List Nat) (B:Nat) (w:World) (ha:Rep w true (ji l) v S) (hF:Fresh B S) (h0:0≤k) (h1:k+4*(l.length:Int)≤4611686018427387904):
 Calls Tryz.prog 175 #[v,.int .i64 k] w fun e w'=>e=.returned (.int .i64 (k+4*(l.length:Int)))∧Rep w' true (ji (mkR juF 4 l.length k)) v S∧Only S w w':=by
 obtain ⟨A,c,rfl,hc1,hc2,-⟩:=Rep.open_ (size:=4) (enc:=jf) (fun _=>rfl) (by decide) ha
 unfold maxLen at hc2;have hl1:l.length≤4611686018427387904:=by omega
 go_enter Tryz.func175,Tryz.ntmps175
 go_wp2
 go_loopw [1,5] (fun q i wr=>∃j:Nat,j≤l.length∧i=.int .i64 j∧q=.int .i64 (k+4*(j:Int))∧Rep wr true (ji (mh (mkR juF 4 l.length k) l j)) (.slice A l.length c) S∧Only S w wr) (fun _ i _=>l.length-(intOf i).toNat)
 case atStart=>exact ⟨0,by omega,rfl,by simp,by rw [jdY];exact ha,Only.refl _ _⟩
 case round=>
  obtain ⟨i,hi,rfl,rfl,hrep,hon⟩:=hrel;by_cases hlt:i<l.length
  ·obtain ⟨x,hx⟩:=je hlt
   have hmx:=jiv (kb juF 4 l.length k) hx;have HM:=Lib.hid hmx;have HX:=Lib.hid hx;obtain ⟨g,rfl,-,hg1,hg,-⟩:=Rep.head (enc:=jf) (size:=4) (xs:=mh (mkR juF 4 l.length k) l i) (fun _=>rfl) (by decide) hrep (by rw [kG (kb _ _ _ _)];omega)
   ·skip
    obtain ⟨⟨u0,hu0⟩,hz0⟩:=jO (enc:=jf) (size:=4) (fun _=>rfl) (by decide) hrep (by rw [kG (kb _ _ _ _)];exact hlt) 0 (by decide)
    obtain ⟨⟨u1,hu1⟩,hz1⟩:=jO (enc:=jf) (size:=4) (fun _=>rfl) (by decide) hrep (by rw [kG (kb _ _ _ _)];exact hlt) 1 (by decide)
    obtain ⟨⟨u2,hu2⟩,hz2⟩:=jO (enc:=jf) (size:=4) (fun _=>rfl) (by decide) hrep (by rw [kG (kb _ _ _ _)];exact hlt) 2 (by decide)
    obtain ⟨⟨u3,hu3⟩,hz3⟩:=jO (enc:=jf) (size:=4) (fun _=>rfl) (by decide) hrep (by rw [kG (kb _ _ _ _)];exact hlt) 3 (by decide)
    rw [Nat.add_zero] at hu0 hz0;have HR:=Lib.hid hrep;clear hmx hx;have hq0:0≤k+4*(i:Int):=by omega
    have hq1:k+4*(i:Int)≤4611686018427387904:=by omega
    go_wp2
    go_roundw
    case rel=>
     have hmx:=HM.out;obtain ⟨hr1,ho1,-⟩:=Rep.setField (enc:=jf) (size:=4) (fun _=>rfl) (by decide) hrep hmx 0 (by decide) (.int .i64 (k+4*(i:Int))) (y:=(⟨k+4*(i:Int),x.seq,x.run,x.task⟩:En)) (fun vk Sk h=>by obtain ⟨rfl,rfl⟩:=qu h;exact jjF _ _ _) hF
     rw [Nat.add_zero] at hr1 ho1;have hm1:=km (y:=(⟨k+4*(i:Int),x.seq,x.run,x.task⟩:En)) hmx;obtain ⟨hr2,ho2,-⟩:=Rep.setField (enc:=jf) (size:=4) (fun _=>rfl) (by decide) hr1 hm1 1 (by decide) (.int .i64 (k+4*(i:Int)+1)) (y:=(⟨k+4*(i:Int),k+4*(i:Int)+1,x.run,x.task⟩:En)) (fun vk Sk h=>by obtain ⟨rfl,rfl⟩:=qu h;exact jjF _ _ _) hF
     have hm2:=km (y:=(⟨k+4*(i:Int),k+4*(i:Int)+1,x.run,x.task⟩:En)) hm1;obtain ⟨hr3,ho3,-⟩:=Rep.setField (enc:=jf) (size:=4) (fun _=>rfl) (by decide) hr2 hm2 2 (by decide) (.int .i64 (k+4*(i:Int)+1+1)) (y:=(⟨k+4*(i:Int),k+4*(i:Int)+1,k+4*(i:Int)+1+1,x.task⟩:En)) (fun vk Sk h=>by obtain ⟨rfl,rfl⟩:=qu h;exact jjF _ _ _) hF
     have hm3:=km (y:=(⟨k+4*(i:Int),k+4*(i:Int)+1,k+4*(i:Int)+1+1,x.task⟩:En)) hm2;obtain ⟨hr4,ho4,-⟩:=Rep.setField (enc:=jf) (size:=4) (fun _=>rfl) (by decide) hr3 hm3 3 (by decide) (.int .i64 (k+4*(i:Int)+1+1+1)) (y:=(⟨k+4*(i:Int),k+4*(i:Int)+1,k+4*(i:Int)+1+1,k+4*(i:Int)+1+1+1⟩:En)) (fun vk Sk h=>by obtain ⟨rfl,rfl⟩:=qu h;exact jjF _ _ _) hF
     have hm4:=km (y:=(⟨k+4*(i:Int),k+4*(i:Int)+1,k+4*(i:Int)+1+1,k+4*(i:Int)+1+1+1⟩:En)) hm3;simp only [List.set_set] at hr4;refine ⟨i+1,by omega,by go_num,by go_num,?_,hon.trans ((((ho1).trans ho2 (fun t h=>.inl h)).trans ho3 (fun t h=>.inl h)).trans ho4 (fun t h=>.inl h)) (fun t h=>.inl (by simp only [List.mem_singleton] at h;subst h;exact hg1))⟩
     rw [←jiu (kb _ _ _ _) (jb7 juF 4 l.length k hlt)];exact hr4
    case measure=>simp [intOf];omega
  ·obtain rfl:i=l.length:=by omega
   go_wp2
   go_ret
   exact ⟨rfl,by rw [←jdZ (kb juF 4 l.length k)];exact hrep,hon⟩
theorem jmU (m:Nat) (k:Int) (v:Value) (S:List Nat) (w:World) (own:Bool) (ha:Rep w own (ji (mkR juF 4 m k)) v S) (h0:0≤k) (h1:k+4*(m:Int)≤4611686018427387904):
 Calls Tryz.prog 177 #[v,.int .i64 k] w fun e w'=>e=.returned (.int .i64 (k+4*(m:Int)))∧Below w.heap.size w w':=by
 obtain ⟨A,c,rfl,hc1,hc2,hca⟩:=Rep.open_ (size:=4) (enc:=jf) (fun _=>rfl) (by decide) ha
 rw [kb] at*;unfold maxLen at hc2;have hl1:m≤4611686018427387904:=by omega
 clear ha
 go_enter Tryz.func177,Tryz.ntmps177
 go_wp2
 go_loopw [1,5] (fun q i wr=>∃j:Nat,j≤m∧i=.int .i64 j∧q=.int .i64 (k+4*(j:Int))∧Below w.heap.size w wr) (fun _ i _=>m-(intOf i).toNat)
 case atStart=>exact ⟨0,by omega,rfl,by simp,Below.refl _ _⟩
 case round=>
  obtain ⟨i,hi,rfl,rfl,hbel⟩:=hrel;by_cases hlt:i<m
  ·obtain ⟨b1,o1,vk1,T1,rfl,-,hr1,-,-,hb1,hx1⟩:=hca i _ (jb7 juF 4 m k hlt)
   clear hca
   ·skip
    obtain ⟨rfl,rfl⟩:=qu hr1;have p0:=ctm (b:=b1) (o:=o1+i*4) hbel (hx1 0 _ rfl);have p1:=ctm (b:=b1) (o:=o1+i*4+1) hbel (hx1 1 _ rfl);have p2:=ctm (b:=b1) (o:=o1+i*4+2) hbel (hx1 2 _ rfl);have p3:=ctm (b:=b1) (o:=o1+i*4+3) hbel (hx1 3 _ rfl);simp only [juF] at p0 p1 p2 p3;clear hx1;have hq0:0≤k+4*(i:Int):=by omega
    have hq1:k+4*(i:Int)≤4611686018427387904:=by omega
    go_wp2
    go_roundw
    case rel=>exact ⟨i+1,by omega,by go_num,by go_num,hbel⟩
    case measure=>simp [intOf];omega
  ·obtain rfl:i=m:=by omega
   clear hca
   go_wp2
   go_ret
   exact ⟨rfl,hbel⟩
def jqK (k:Int):Tk:=⟨k,k+1,k+1+1,k+1+1+1⟩
theorem jn8 (l:List Tk) (k:Int) (v:Value) (S:List Nat) (B:Nat) (w:World) (ha:Rep w true (jw l) v S) (hF:Fresh B S) (h0:0≤k) (h1:k+4*(l.length:Int)≤4611686018427387904):
 Calls Tryz.prog 176 #[v,.int .i64 k] w fun e w'=>e=.returned (.int .i64 (k+4*(l.length:Int)))∧Rep w' true (jw (mkR jqK 4 l.length k)) v S∧Only S w w':=by
 obtain ⟨A,c,rfl,hc1,hc2,-⟩:=Rep.open_ (size:=4) (enc:=jn) (fun _=>rfl) (by decide) ha
 unfold maxLen at hc2;have hl1:l.length≤4611686018427387904:=by omega
 go_enter Tryz.func176,Tryz.ntmps176
 go_wp2
 go_loopw [1,5] (fun q i wr=>∃j:Nat,j≤l.length∧i=.int .i64 j∧q=.int .i64 (k+4*(j:Int))∧Rep wr true (jw (mh (mkR jqK 4 l.length k) l j)) (.slice A l.length c) S∧Only S w wr) (fun _ i _=>l.length-(intOf i).toNat)
 case atStart=>exact ⟨0,by omega,rfl,by simp,by rw [jdY];exact ha,Only.refl _ _⟩
 case round=>
  obtain ⟨i,hi,rfl,rfl,hrep,hon⟩:=hrel;by_cases hlt:i<l.length
  ·obtain ⟨x,hx⟩:=je hlt
   have hmx:=jiv (kb jqK 4 l.length k) hx;have HM:=Lib.hid hmx;have HX:=Lib.hid hx;obtain ⟨g,rfl,-,hg1,hg,-⟩:=Rep.head (enc:=jn) (size:=4) (xs:=mh (mkR jqK 4 l.length k) l i) (fun _=>rfl) (by decide) hrep (by rw [kG (kb _ _ _ _)];omega)
   ·skip
    obtain ⟨⟨u0,hu0⟩,hz0⟩:=jO (enc:=jn) (size:=4) (fun _=>rfl) (by decide) hrep (by rw [kG (kb _ _ _ _)];exact hlt) 0 (by decide)
    obtain ⟨⟨u1,hu1⟩,hz1⟩:=jO (enc:=jn) (size:=4) (fun _=>rfl) (by decide) hrep (by rw [kG (kb _ _ _ _)];exact hlt) 1 (by decide)
    obtain ⟨⟨u2,hu2⟩,hz2⟩:=jO (enc:=jn) (size:=4) (fun _=>rfl) (by decide) hrep (by rw [kG (kb _ _ _ _)];exact hlt) 2 (by decide)
    obtain ⟨⟨u3,hu3⟩,hz3⟩:=jO (enc:=jn) (size:=4) (fun _=>rfl) (by decide) hrep (by rw [kG (kb _ _ _ _)];exact hlt) 3 (by decide)
    rw [Nat.add_zero] at hu0 hz0;have HR:=Lib.hid hrep;clear hmx hx;have hq0:0≤k+4*(i:Int):=by omega
    have hq1:k+4*(i:Int)≤4611686018427387904:=by omega
    go_wp2
    go_roundw
    case rel=>
     have hmx:=HM.out;obtain ⟨hr1,ho1,-⟩:=Rep.setField (enc:=jn) (size:=4) (fun _=>rfl) (by decide) hrep hmx 0 (by decide) (.int .i64 (k+4*(i:Int))) (y:=(⟨k+4*(i:Int),x.need,x.tri,x.til⟩:Tk)) (fun vk Sk h=>by obtain ⟨rfl,rfl⟩:=qF h;exact jpX _ _ _) hF
     rw [Nat.add_zero] at hr1 ho1;have hm1:=km (y:=(⟨k+4*(i:Int),x.need,x.tri,x.til⟩:Tk)) hmx;obtain ⟨hr2,ho2,-⟩:=Rep.setField (enc:=jn) (size:=4) (fun _=>rfl) (by decide) hr1 hm1 1 (by decide) (.int .i64 (k+4*(i:Int)+1)) (y:=(⟨k+4*(i:Int),k+4*(i:Int)+1,x.tri,x.til⟩:Tk)) (fun vk Sk h=>by obtain ⟨rfl,rfl⟩:=qF h;exact jpX _ _ _) hF
     have hm2:=km (y:=(⟨k+4*(i:Int),k+4*(i:Int)+1,x.tri,x.til⟩:Tk)) hm1;obtain ⟨hr3,ho3,-⟩:=Rep.setField (enc:=jn) (size:=4) (fun _=>rfl) (by decide) hr2 hm2 2 (by decide) (.int .i64 (k+4*(i:Int)+1+1)) (y:=(⟨k+4*(i:Int),k+4*(i:Int)+1,k+4*(i:Int)+1+1,x.til⟩:Tk)) (fun vk Sk h=>by obtain ⟨rfl,rfl⟩:=qF h;exact jpX _ _ _) hF
     have hm3:=km (y:=(⟨k+4*(i:Int),k+4*(i:Int)+1,k+4*(i:Int)+1+1,x.til⟩:Tk)) hm2;obtain ⟨hr4,ho4,-⟩:=Rep.setField (enc:=jn) (size:=4) (fun _=>rfl) (by decide) hr3 hm3 3 (by decide) (.int .i64 (k+4*(i:Int)+1+1+1)) (y:=(⟨k+4*(i:Int),k+4*(i:Int)+1,k+4*(i:Int)+1+1,k+4*(i:Int)+1+1+1⟩:Tk)) (fun vk Sk h=>by obtain ⟨rfl,rfl⟩:=qF h;exact jpX _ _ _) hF
     have hm4:=km (y:=(⟨k+4*(i:Int),k+4*(i:Int)+1,k+4*(i:Int)+1+1,k+4*(i:Int)+1+1+1⟩:Tk)) hm3;simp only [List.set_set] at hr4;refine ⟨i+1,by omega,by go_num,by go_num,?_,hon.trans ((((ho1).trans ho2 (fun t h=>.inl h)).trans ho3 (fun t h=>.inl h)).trans ho4 (fun t h=>.inl h)) (fun t h=>.inl (by simp only [List.mem_singleton] at h;subst h;exact hg1))⟩
     rw [←jiu (kb _ _ _ _) (jb7 jqK 4 l.length k hlt)];exact hr4
    case measure=>simp [intOf];omega
  ·obtain rfl:i=l.length:=by omega
   go_wp2
   go_ret
   exact ⟨rfl,by rw [←jdZ (kb jqK 4 l.length k)];exact hrep,hon⟩
theorem jol (m:Nat) (k:Int) (v:Value) (S:List Nat) (w:World) (own:Bool) (ha:Rep w own (jw (mkR jqK 4 m k)) v S) (h0:0≤k) (h1:k+4*(m:Int)≤4611686018427387904):
 Calls Tryz.prog 179 #[v,.int .i64 k] w fun e w'=>e=.returned (.int .i64 (k+4*(m:Int)))∧Below w.heap.size w w':=by
 obtain ⟨A,c,rfl,hc1,hc2,hca⟩:=Rep.open_ (size:=4) (enc:=jn) (fun _=>rfl) (by decide) ha
 rw [kb] at*;unfold maxLen at hc2;have hl1:m≤4611686018427387904:=by omega
 clear ha
 go_enter Tryz.func179,Tryz.ntmps179
 go_wp2
 go_loopw [1,5] (fun q i wr=>∃j:Nat,j≤m∧i=.int .i64 j∧q=.int .i64 (k+4*(j:Int))∧Below w.heap.size w wr) (fun _ i _=>m-(intOf i).toNat)
 case atStart=>exact ⟨0,by omega,rfl,by simp,Below.refl _ _⟩
 case round=>
  obtain ⟨i,hi,rfl,rfl,hbel⟩:=hrel;by_cases hlt:i<m
  ·obtain ⟨b1,o1,vk1,T1,rfl,-,hr1,-,-,hb1,hx1⟩:=hca i _ (jb7 jqK 4 m k hlt)
   clear hca
   ·skip
    obtain ⟨rfl,rfl⟩:=qF hr1;have p0:=ctm (b:=b1) (o:=o1+i*4) hbel (hx1 0 _ rfl);have p1:=ctm (b:=b1) (o:=o1+i*4+1) hbel (hx1 1 _ rfl);have p2:=ctm (b:=b1) (o:=o1+i*4+2) hbel (hx1 2 _ rfl);have p3:=ctm (b:=b1) (o:=o1+i*4+3) hbel (hx1 3 _ rfl);simp only [jqK] at p0 p1 p2 p3;clear hx1;have hq0:0≤k+4*(i:Int):=by omega
    have hq1:k+4*(i:Int)≤4611686018427387904:=by omega
    go_wp2
    go_roundw
    case rel=>exact ⟨i+1,by omega,by go_num,by go_num,hbel⟩
    case measure=>simp [intOf];omega
  ·obtain rfl:i=m:=by omega
   clear hca
   go_wp2
   go_ret
   exact ⟨rfl,hbel⟩
open Go.RowKit Go.Sort Go.BigFrame
def mkL {α:Type} (mk:α→Int→α) (cnt:α→Nat):List α→Int→List α
 |[],_=>[]
 |x::l,k=>mk x k::mkL mk cnt l (k+(cnt x:Int))
theorem kq {α:Type} (mk:α→Int→α) (cnt:α→Nat):∀(l:List α) (k:Int),(mkL mk cnt l k).length=l.length
 |[],_=>rfl
 |_::l,k=>by rw [mkL,List.length_cons,List.length_cons,kq mk cnt l]
theorem jfY {α:Type} (mk:α→Int→α) (cnt:α→Nat):∀(l:List α) (k:Int) {i:Nat} {x:α},l[i]?=some x→(mkL mk cnt l k)[i]?=some (mk x (k+(kj cnt (l.take i):Nat)))
 |[],_,i,x,h=>by simp at h
 |y::l,k,0,x,h=>by
  simp at h;subst h;simp [mkL,kj]
 |y::l,k,i+1,x,h=>by
  simp only [List.getElem?_cons_succ] at h;rw [mkL,List.getElem?_cons_succ,jfY mk cnt l _ h,List.take_succ_cons];have:kj cnt (y::l.take i)=cnt y+kj cnt (l.take i):=by simp [kj]
  rw [this]
  congr 2
  push_cast
  omega
theorem Rep.inElem {α:Type} {enc:α→List D} {size:Nat} {ty:TypeId} {w:World} {xs:List α} {S:List Nat} {B:Nat} {g n c k:Nat} {x:α}
 (hl:∀x,(enc x).length=size) (hs:0<size) (h:Rep w true (.sl size ty (xs.flatMap enc)) (.slice (some ⟨g,0,none⟩) n c) S) (hF:Go.Proofs.YtmnpailnelmpiaaGreat.Fresh B S) (hx:xs[k]?=some x):
 ∃vk Sk,RepL w true (enc x) vk Sk∧(∀s∈Sk,s∈S)∧Go.Proofs.YtmnpailnelmpiaaGreat.Fresh B Sk∧(∀j u,vk[j]?=some u→w.cell? ⟨g,k*size+j,none⟩=some u)∧g∉Sk∧g∈S∧
  ∀w' y,Only Sk w w'→RepL w' true (enc y) vk Sk→Rep w' true (.sl size ty ((xs.set k y).flatMap enc)) (.slice (some ⟨g,0,none⟩) n c) S:=by
 obtain ⟨vs,S1,h1,h2,rfl⟩:=Rep.own hl hs h;have hk:k<xs.length:=(List.getElem?_eq_some_iff.1 hx).1;obtain ⟨v1,vk,v2,Sa,Sk,Sb,rfl,hv1,hvk,rfl,hr,hra,hrb⟩:=RepL.get hl xs h2 k x hx
 have hn:n=xs.length:=by
  rcases h1.2 with ⟨e,_⟩|⟨g',cap',cur,e,_⟩
  ·cases e
  ·simp only [Value.slice.injEq] at e;exact e.2.1
 subst hn;have hglt:g<w.heap.size:=h1.lt g rfl|>.2
 have hg:g∉Sk:=fun hh=>hF.apart g (by simp [blk]) (by simp [hh])
 have hsz:k*size+size≤xs.length*size:=by rw [←Nat.succ_mul];exact Nat.mul_le_mul_right _ hk
 refine ⟨vk,Sk,hr,fun s hs=>by simp [hs],hF.right.left.right,fun j u hu=>?_,hg,by simp [blk],fun w' y ho hy=>?_⟩
 ·have hj:j<size:=by have:=(List.getElem?_eq_some_iff.1 hu).1;omega
  rw [h1.cellAt (k*size+j) (by omega),List.append_assoc,List.getElem?_append_right (by omega),hv1,Nat.add_sub_cancel_left,List.getElem?_append_left (by omega)]
  exact hu
 ·have hna:∀s∈Sa,s∉Sk:=hF.right.left.apart
  have hnb:∀s∈Sb,s∉Sk:=fun s hs hk'=>hF.right.apart s (by simp [hk']) hs
  have h1':w'.ownsRow 0 ty size (.slice (some ⟨g,0,none⟩) xs.length c) xs.length (v1++vk++v2):=by
   refine ⟨h1.1,?_⟩;rcases h1.2 with ⟨e,_⟩|⟨g',cap',cur,e,hb,hc,hr⟩
   ·cases e
   ·refine .inr ⟨g',cap',cur,e,hb,?_,hr⟩
    simp only [Value.slice.injEq,Option.some.injEq,Addr.mk.injEq,and_true] at e;obtain ⟨rfl,_⟩:=e;rw [ho.block g hglt hg];exact hc
  exact Rep.of_own h1' (RepL.put xs hk (hra.only ho hna) hy (hrb.only ho hnb))
def c4 (l:List En):Nat:=4*l.length
def jvJ (l:List En) (k:Int):List En:=mkR juF 4 l.length k
theorem jlk (l:List (List En)) (k:Int) (v:Value) (S:List Nat) (B:Nat) (w:World) (ha:Rep w true (kt l) v S) (hF:Fresh B S) (h0:0≤k) (h1:k+(kj c4 l:Nat)≤2305843009213693952) (h2:l.length≤2305843009213693952):
 Calls Tryz.prog 97 #[v,.int .i64 k] w fun e w'=>e=.returned (.int .i64 (k+(kj c4 l:Nat)))∧Rep w' true (kt (mkL jvJ c4 l k)) v S∧Only S w w':=by
 obtain ⟨A,c,rfl,hc1,hc2,-⟩:=Rep.open_ (size:=1) (enc:=fun es=>[ji es]) (fun _=>rfl) (by decide) ha
 go_enter Tryz.func97,Tryz.ntmps97
 go_wp2
 go_loopw [1,5] (fun q i wr=>∃j:Nat,j≤l.length∧i=.int .i64 j∧q=.int .i64 (k+(kj c4 (l.take j):Nat))∧Rep wr true (kt (mh (mkL jvJ c4 l k) l j)) (.slice A l.length c) S∧Only S w wr) (fun _ i _=>l.length-(intOf i).toNat)
 case atStart=>exact ⟨0,by omega,rfl,by simp [kj],by rw [jdY];exact ha,Only.refl _ _⟩
 case round=>
  obtain ⟨i,hi,rfl,rfl,hrep,hon⟩:=hrel;by_cases hlt:i<l.length
  ·obtain ⟨x,hx⟩:=je hlt
   have hmx:=jiv (kq jvJ c4 l k) hx;obtain ⟨g,rfl,-,hg1,hg,-⟩:=Rep.head (enc:=fun es=>[ji es]) (size:=1) (xs:=mh (mkL jvJ c4 l k) l i) (fun _=>rfl) (by decide) hrep (by rw [kG (kq _ _ _ _)];omega)
   ·skip
    obtain ⟨vk,Sk,hrk,hSk,hFk,hcell,hgk,-,hback⟩:=Rep.inElem (enc:=fun es=>[ji es]) (size:=1) (fun _=>rfl) (by decide) hrep hF hmx
    obtain ⟨u,_,U0,U1,rfl,rfl,hu,rfl,rfl⟩:=hrk;have p0:wr.cell? ⟨g,i,none⟩=some u:=by simpa using hcell 0 u rfl
    obtain ⟨A1,n1,m1,rfl⟩:=Rep.form hu;have hts:=kL (tot:=c4) hx;have htl:=qE c4 l (i+1);have hc4:c4 x=4*x.length:=rfl;have HT:=Lib.hid (show k+((kj c4 (l.take i):Nat):Int)+4*(x.length:Int)=k+((kj c4 (l.take (i+1)):Nat):Int) by omega)
    have hq0:0≤k+((kj c4 (l.take i):Nat):Int):=by omega
    have hq1:k+((kj c4 (l.take i):Nat):Int)+4*(x.length:Int)≤2305843009213693952:=by omega
    have HM:=Lib.hid (jfY jvJ c4 l k hx);have HB:=Lib.hid hback;have HF:=Lib.hid hFk;clear hcell hmx hx hts htl hc4 hback;generalize ((kj c4 (l.take i):Nat):Int)=t at*;simp only [List.append_nil] at*
    go_wp2_with (go_at_call 175;refine (jmz x (k+t) _ U0 B wr hu HF.out hq0 (by omega)).mono ?_;rintro e w' ⟨rfl,hr',ho'⟩)
    go_roundw
    case rel=>
     refine ⟨i+1,by omega,by go_num,by rw [HT.out],?_,hon.trans ho' (fun t ht=>.inl (hSk t ht))⟩
     rw [←jiu (kq _ _ _ _) HM.out];exact HB.out w' _ ho' (by have h:=RepL.cons_ hr' (RepL.nil_ (w:=w') (own:=true));rw [List.append_nil] at h;exact h)
    case measure=>simp [intOf];omega
  ·obtain rfl:i=l.length:=by omega
   go_wp2
   go_ret
   rw [List.take_length];exact ⟨rfl,by rw [←jdZ (kq jvJ c4 l k)];exact hrep,hon⟩
theorem jlr (l:List (List En)) (k:Int) (v:Value) (S:List Nat) (w:World) (own:Bool) (ha:Rep w own (kt (mkL jvJ c4 l k)) v S) (h0:0≤k) (h1:k+(kj c4 l:Nat)≤2305843009213693952) (h2:l.length≤2305843009213693952):
 Calls Tryz.prog 99 #[v,.int .i64 k] w fun e w'=>e=.returned (.int .i64 (k+(kj c4 l:Nat)))∧Below w.heap.size w w':=by
 obtain ⟨A,c,rfl,hc1,hc2,hca⟩:=Rep.open_ (size:=1) (enc:=fun es=>[ji es]) (fun _=>rfl) (by decide) ha
 rw [kq] at*;clear ha
 go_enter Tryz.func99,Tryz.ntmps99
 go_wp2
 go_loopw [1,5] (fun q i wr=>∃j:Nat,j≤l.length∧i=.int .i64 j∧q=.int .i64 (k+(kj c4 (l.take j):Nat))∧Below w.heap.size w wr) (fun _ i _=>l.length-(intOf i).toNat)
 case atStart=>exact ⟨0,by omega,rfl,by simp [kj],Below.refl _ _⟩
 case round=>
  obtain ⟨i,hi,rfl,rfl,hbel⟩:=hrel;by_cases hlt:i<l.length
  ·obtain ⟨x,hx⟩:=je hlt
   obtain ⟨b1,o1,vk1,T1,rfl,-,hr1,-,-,hb1,hx1⟩:=hca i _ (jfY jvJ c4 l k hx);clear hca
   ·skip
    obtain ⟨u,_,U0,U1,rfl,rfl,hu,rfl,rfl⟩:=hr1;have p0:=ctm (b:=b1) (o:=o1+i) hbel (by simpa using hx1 0 _ rfl)
    obtain ⟨A1,n1,rfl,hi1,hi2,-⟩:=Rep.open_ (size:=4) (enc:=jf) (fun _=>rfl) (by decide) hu
    have hts:=kL (tot:=c4) hx;have htl:=qE c4 l (i+1);have hc4:c4 x=4*x.length:=rfl;have HT:=Lib.hid (show k+((kj c4 (l.take i):Nat):Int)+4*(x.length:Int)=k+((kj c4 (l.take (i+1)):Nat):Int) by omega)
    have hq0:0≤k+((kj c4 (l.take i):Nat):Int):=by omega
    have hq1:k+((kj c4 (l.take i):Nat):Int)+4*(x.length:Int)≤2305843009213693952:=by omega
    clear hx1 hx hts htl hc4;generalize ((kj c4 (l.take i):Nat):Int)=t at*;have hneg:decide (k+t+4*(x.length:Int)<0)=false:=by simp;omega
    go_wp2_with (go_at_call 177;refine (jmU x.length (k+t) _ U0 wr own (up hu hbel) hq0 (by omega)).mono ?_;rintro e w' ⟨rfl,hb'⟩)
    go_roundw
    case rel=>exact ⟨i+1,by omega,by go_num,by rw [HT.out],jy hbel hb'⟩
    case measure=>simp [intOf];omega
  ·obtain rfl:i=l.length:=by omega
   clear hca
   go_wp2
   go_ret
   rw [List.take_length];exact ⟨rfl,hbel⟩
open Go.RowKit Go.Sort Go.BigFrame
theorem jvA {S:List Nat} {w w':World} (ho:Only S w w') {b:Nat} (h:b<w.heap.size) (hS:b∉S):(∀o,w'.cell? ⟨b,o,none⟩=w.cell? ⟨b,o,none⟩)∧(∀o,w'.frozen? ⟨b,o,none⟩=w.frozen? ⟨b,o,none⟩):=by
 have e:w'.heap[b]?=w.heap[b]?:=ho.block b h hS;exact ⟨fun o=>World.cell?_of_block (w:=w) (a:=⟨b,o,none⟩) e,fun o=>World.frozen?_of_block (w:=w) (a:=⟨b,o,none⟩) e⟩
def juE (x:Rn) (q:Int):Rn:=⟨q,⟨q+1,q+1+1,q+1+1+1,q+1+1+1+1,mkR jek 2 x.plan.edges.length (q+1+1+1+1+1)⟩,q+1+1+1+1+1+2*(x.plan.edges.length:Int),mkR jqK 4 x.tasks.length (q+1+1+1+1+1+2*(x.plan.edges.length:Int)+1)⟩
def cRn (x:Rn):Nat:=6+2*x.plan.edges.length+4*x.tasks.length
set_option maxRecDepth 8000 in
theorem jqN (l:List Rn) (k:Int) (v:Value) (S:List Nat) (B:Nat) (w:World) (ha:Rep w true (jM l) v S) (hF:Fresh B S) (h0:0≤k) (h1:k+(kj cRn l:Nat)≤2305843009213693952) (h2:l.length≤2305843009213693952):
 Calls Tryz.prog 98 #[v,.int .i64 k] w fun e w'=>e=.returned (.int .i64 (k+(kj cRn l:Nat)))∧Rep w' true (jM (mkL juE cRn l k)) v S∧Only S w w':=by
 obtain ⟨A,c,rfl,hc1,hc2,-⟩:=Rep.open_ (size:=8) (enc:=jd) (fun _=>rfl) (by decide) ha
 go_enter Tryz.func98,Tryz.ntmps98
 go_wp2
 go_loopw [1,5] (fun q i wr=>∃j:Nat,j≤l.length∧i=.int .i64 j∧q=.int .i64 (k+(kj cRn (l.take j):Nat))∧Rep wr true (jM (mh (mkL juE cRn l k) l j)) (.slice A l.length c) S∧Only S w wr) (fun _ i _=>l.length-(intOf i).toNat)
 case atStart=>exact ⟨0,by omega,rfl,by simp [kj],by rw [jdY];exact ha,Only.refl _ _⟩
 case round=>
  obtain ⟨i,hi,rfl,rfl,hrep,hon⟩:=hrel;by_cases hlt:i<l.length
  ·obtain ⟨x,hx⟩:=je hlt
   have hmx:=jiv (kq juE cRn l k) hx;obtain ⟨g,rfl,-,hg1,hg,-⟩:=Rep.head (enc:=jd) (size:=8) (xs:=mh (mkL juE cRn l k) l i) (fun _=>rfl) (by decide) hrep (by rw [kG (kq _ _ _ _)];omega)
   ·skip
    have hts:=kL (tot:=cRn) hx;have htl:=qE cRn l (i+1);have hcx:cRn x=6+2*x.plan.edges.length+4*x.tasks.length:=rfl;obtain ⟨q,hq⟩:∃q,q=k+((kj cRn (l.take i):Nat):Int):=⟨_,rfl⟩;have HT:=Lib.hid (show q+1+1+1+1+1+2*(x.plan.edges.length:Int)+1+4*(x.tasks.length:Int)=k+((kj cRn (l.take (i+1)):Nat):Int) by omega)
    have hq0:0≤q:=by omega
    have hq1:q+1+1+1+1+1+2*(x.plan.edges.length:Int)+1+4*(x.tasks.length:Int)≤2305843009213693952:=by omega
    have HM:=Lib.hid (jfY juE cRn l k hx);rw [←hq] at HM⊢;clear hq;obtain ⟨vk,Sk,hrk,hSk,hFk,hcell,hgk,-,-⟩:=Rep.inElem (enc:=jd) (size:=8) (fun _=>rfl) (by decide) hrep hF hmx
    obtain ⟨sv5,sv7,U0,U1,rfl,hs5,hs7,rfl⟩:=kh hrk;obtain ⟨A5,n5,m5,rfl⟩:=Rep.form hs5;obtain ⟨A7,n7,m7,rfl⟩:=Rep.form hs7;have p0:wr.cell? ⟨g,i*8,none⟩=_:=hcell 0 _ rfl;have p1:wr.cell? ⟨g,i*8+1,none⟩=_:=hcell 1 _ rfl;have p2:wr.cell? ⟨g,i*8+2,none⟩=_:=hcell 2 _ rfl;have p3:wr.cell? ⟨g,i*8+3,none⟩=_:=hcell 3 _ rfl;have p4:wr.cell? ⟨g,i*8+4,none⟩=_:=hcell 4 _ rfl;have p5:wr.cell? ⟨g,i*8+5,none⟩=_:=hcell 5 _ rfl;have p6:wr.cell? ⟨g,i*8+6,none⟩=_:=hcell 6 _ rfl;have p7:wr.cell? ⟨g,i*8+7,none⟩=_:=hcell 7 _ rfl;have z0:wr.frozen? ⟨g,i*8,none⟩=false:=(jO (enc:=jd) (size:=8) (fun _=>rfl) (by decide) hrep (by rw [kG (kq _ _ _ _)];exact hlt) 0 (by decide)).2
    have z1:wr.frozen? ⟨g,i*8+1,none⟩=false:=(jO (enc:=jd) (size:=8) (fun _=>rfl) (by decide) hrep (by rw [kG (kq _ _ _ _)];exact hlt) 1 (by decide)).2
    have z2:wr.frozen? ⟨g,i*8+2,none⟩=false:=(jO (enc:=jd) (size:=8) (fun _=>rfl) (by decide) hrep (by rw [kG (kq _ _ _ _)];exact hlt) 2 (by decide)).2
    have z3:wr.frozen? ⟨g,i*8+3,none⟩=false:=(jO (enc:=jd) (size:=8) (fun _=>rfl) (by decide) hrep (by rw [kG (kq _ _ _ _)];exact hlt) 3 (by decide)).2
    have z4:wr.frozen? ⟨g,i*8+4,none⟩=false:=(jO (enc:=jd) (size:=8) (fun _=>rfl) (by decide) hrep (by rw [kG (kq _ _ _ _)];exact hlt) 4 (by decide)).2
    have z6:wr.frozen? ⟨g,i*8+6,none⟩=false:=(jO (enc:=jd) (size:=8) (fun _=>rfl) (by decide) hrep (by rw [kG (kq _ _ _ _)];exact hlt) 6 (by decide)).2
    clear hcell hx hts htl hcx
    go_wp2_with (first
     |(go_at_call 127;obtain ⟨hr0,ho0,-⟩:=Rep.setField (enc:=jd) (size:=8) (fun _=>rfl) (by decide) hrep hmx 0 (by decide) (.int .i64 (q)) (y:=(⟨q,⟨x.plan.prio,x.plan.most,x.plan.wait,x.plan.tasks,x.plan.edges⟩,x.state,x.tasks⟩:Rn)) (fun vk Sk h=>by obtain ⟨_,_,_,_,rfl,k1,k2,rfl⟩:=kh h;exact jjj k1 k2) hF;rw [Nat.add_zero] at hr0 ho0;have hm0:=km (y:=(⟨q,⟨x.plan.prio,x.plan.most,x.plan.wait,x.plan.tasks,x.plan.edges⟩,x.state,x.tasks⟩:Rn)) hmx;obtain ⟨hr1,ho1,-⟩:=Rep.setField (enc:=jd) (size:=8) (fun _=>rfl) (by decide) hr0 hm0 1 (by decide) (.int .i64 (q+1)) (y:=(⟨q,⟨q+1,x.plan.most,x.plan.wait,x.plan.tasks,x.plan.edges⟩,x.state,x.tasks⟩:Rn)) (fun vk Sk h=>by obtain ⟨_,_,_,_,rfl,k1,k2,rfl⟩:=kh h;exact jjj k1 k2) hF;have hm1:=km (y:=(⟨q,⟨q+1,x.plan.most,x.plan.wait,x.plan.tasks,x.plan.edges⟩,x.state,x.tasks⟩:Rn)) hm0;obtain ⟨hr2,ho2,-⟩:=Rep.setField (enc:=jd) (size:=8) (fun _=>rfl) (by decide) hr1 hm1 2 (by decide) (.int .i64 (q+1+1)) (y:=(⟨q,⟨q+1,q+1+1,x.plan.wait,x.plan.tasks,x.plan.edges⟩,x.state,x.tasks⟩:Rn)) (fun vk Sk h=>by obtain ⟨_,_,_,_,rfl,k1,k2,rfl⟩:=kh h;exact jjj k1 k2) hF;have hm2:=km (y:=(⟨q,⟨q+1,q+1+1,x.plan.wait,x.plan.tasks,x.plan.edges⟩,x.state,x.tasks⟩:Rn)) hm1;obtain ⟨hr3,ho3,-⟩:=Rep.setField (enc:=jd) (size:=8) (fun _=>rfl) (by decide) hr2 hm2 3 (by decide) (.int .i64 (q+1+1+1)) (y:=(⟨q,⟨q+1,q+1+1,q+1+1+1,x.plan.tasks,x.plan.edges⟩,x.state,x.tasks⟩:Rn)) (fun vk Sk h=>by obtain ⟨_,_,_,_,rfl,k1,k2,rfl⟩:=kh h;exact jjj k1 k2) hF;have hm3:=km (y:=(⟨q,⟨q+1,q+1+1,q+1+1+1,x.plan.tasks,x.plan.edges⟩,x.state,x.tasks⟩:Rn)) hm2;obtain ⟨hr4,ho4,-⟩:=Rep.setField (enc:=jd) (size:=8) (fun _=>rfl) (by decide) hr3 hm3 4 (by decide) (.int .i64 (q+1+1+1+1)) (y:=(⟨q,⟨q+1,q+1+1,q+1+1+1,q+1+1+1+1,x.plan.edges⟩,x.state,x.tasks⟩:Rn)) (fun vk Sk h=>by obtain ⟨_,_,_,_,rfl,k1,k2,rfl⟩:=kh h;exact jjj k1 k2) hF;have hm4:=km (y:=(⟨q,⟨q+1,q+1+1,q+1+1+1,q+1+1+1+1,x.plan.edges⟩,x.state,x.tasks⟩:Rn)) hm3;obtain ⟨vkA,SkA,hrkA,hSkA,hFkA,hcellA,hgkA,-,hbackA⟩:=Rep.inElem (enc:=jd) (size:=8) (fun _=>rfl) (by decide) hr4 hF hm4;obtain ⟨evA5,evA7,UA0,UA1,rfl,eA5,eA7,rfl⟩:=kh hrkA;have hvA5:=hcellA 5 _ rfl;simp [go_sem,p5] at hvA5;subst hvA5;have hvA7:=hcellA 7 _ rfl;simp [go_sem,p7] at hvA7;subst hvA7;refine (jix x.plan.edges (q+1+1+1+1+1) _ UA0 B _ eA5 hFkA.left (by omega) (by omega)).mono ?_;rintro e wA ⟨rfl,hrA,hoA⟩;obtain ⟨hdA,hzA⟩:=jvA hoA (b:=g) (by simpa using hg) (fun h=>hgkA (by simp [h]));have hgA:g<wA.heap.size:=Nat.lt_of_lt_of_le (by simpa using hg) hoA.size)
     |(go_at_call 176;have hbA:=hbackA wA (⟨q,⟨q+1,q+1+1,q+1+1+1,q+1+1+1+1,mkR jek 2 x.plan.edges.length (q+1+1+1+1+1)⟩,x.state,x.tasks⟩:Rn) (hoA.mono (fun s hs=>.inl (by simp [hs]))) (jjj (r:=(⟨q,⟨q+1,q+1+1,q+1+1+1,q+1+1+1+1,mkR jek 2 x.plan.edges.length (q+1+1+1+1+1)⟩,x.state,x.tasks⟩:Rn)) hrA (eA7.only hoA (fun s hs ht=>hFkA.apart s ht hs)));have hnA:=km (y:=(⟨q,⟨q+1,q+1+1,q+1+1+1,q+1+1+1+1,mkR jek 2 x.plan.edges.length (q+1+1+1+1+1)⟩,x.state,x.tasks⟩:Rn)) hm4;obtain ⟨hr6,ho6,-⟩:=Rep.setField (enc:=jd) (size:=8) (fun _=>rfl) (by decide) hbA hnA 6 (by decide) (.int .i64 (q+1+1+1+1+1+2*(x.plan.edges.length:Int))) (y:=(⟨q,⟨q+1,q+1+1,q+1+1+1,q+1+1+1+1,mkR jek 2 x.plan.edges.length (q+1+1+1+1+1)⟩,q+1+1+1+1+1+2*(x.plan.edges.length:Int),x.tasks⟩:Rn)) (fun vk Sk h=>by obtain ⟨_,_,_,_,rfl,k1,k2,rfl⟩:=kh h;exact jjj k1 k2) hF;have hm6:=km (y:=(⟨q,⟨q+1,q+1+1,q+1+1+1,q+1+1+1+1,mkR jek 2 x.plan.edges.length (q+1+1+1+1+1)⟩,q+1+1+1+1+1+2*(x.plan.edges.length:Int),x.tasks⟩:Rn)) hnA;obtain ⟨vkB,SkB,hrkB,hSkB,hFkB,hcellB,hgkB,-,hbackB⟩:=Rep.inElem (enc:=jd) (size:=8) (fun _=>rfl) (by decide) hr6 hF hm6;obtain ⟨evB5,evB7,UB0,UB1,rfl,eB5,eB7,rfl⟩:=kh hrkB;have hvB5:=hcellB 5 _ rfl;simp [go_sem,p5,hdA] at hvB5;subst hvB5;have hvB7:=hcellB 7 _ rfl;simp [go_sem,p7,hdA] at hvB7;subst hvB7;refine (jn8 x.tasks (q+1+1+1+1+1+2*(x.plan.edges.length:Int)+1) _ UB1 B _ eB7 hFkB.right (by omega) (by omega)).mono ?_;rintro e wB ⟨rfl,hrB,hoB⟩;obtain ⟨hdB,hzB⟩:=jvA hoB (b:=g) (by simpa using hgA) (fun h=>hgkB (by simp [h]));have hgB:g<wB.heap.size:=Nat.lt_of_lt_of_le (by simpa using hgA) hoB.size))
    go_roundw
    case rel=>
     have hbB:=hbackB wB (⟨q,⟨q+1,q+1+1,q+1+1+1,q+1+1+1+1,mkR jek 2 x.plan.edges.length (q+1+1+1+1+1)⟩,q+1+1+1+1+1+2*(x.plan.edges.length:Int),mkR jqK 4 x.tasks.length (q+1+1+1+1+1+2*(x.plan.edges.length:Int)+1)⟩:Rn) (hoB.mono (fun s hs=>.inl (by simp [hs]))) (jjj (r:=(⟨q,⟨q+1,q+1+1,q+1+1+1,q+1+1+1+1,mkR jek 2 x.plan.edges.length (q+1+1+1+1+1)⟩,q+1+1+1+1+1+2*(x.plan.edges.length:Int),mkR jqK 4 x.tasks.length (q+1+1+1+1+1+2*(x.plan.edges.length:Int)+1)⟩:Rn)) (eB5.only hoB (fun s hs ht=>hFkB.apart s hs ht)) hrB)
     have hnB:=km (y:=(⟨q,⟨q+1,q+1+1,q+1+1+1,q+1+1+1+1,mkR jek 2 x.plan.edges.length (q+1+1+1+1+1)⟩,q+1+1+1+1+1+2*(x.plan.edges.length:Int),mkR jqK 4 x.tasks.length (q+1+1+1+1+1+2*(x.plan.edges.length:Int)+1)⟩:Rn)) hm6;simp only [List.set_set] at hbB;refine ⟨i+1,by omega,by go_num,by first|(rw [←HT.out])|(rw [←HT.out];go_num),?_,((((((((hon.trans ho0 (fun t h=>.inl (by simp only [List.mem_singleton] at h;subst h;exact hg1))).trans ho1 (fun t h=>.inl (by simp only [List.mem_singleton] at h;subst h;exact hg1))).trans ho2 (fun t h=>.inl (by simp only [List.mem_singleton] at h;subst h;exact hg1))).trans ho3 (fun t h=>.inl (by simp only [List.mem_singleton] at h;subst h;exact hg1))).trans ho4 (fun t h=>.inl (by simp only [List.mem_singleton] at h;subst h;exact hg1))).trans hoA (fun t h=>.inl (hSkA t (by simp [h])))).trans ho6 (fun t h=>.inl (by simp only [List.mem_singleton] at h;subst h;exact hg1))).trans hoB (fun t h=>.inl (hSkB t (by simp [h]))))⟩
     rw [←jiu (kq _ _ _ _) HM.out];exact hbB
    case measure=>simp [intOf];omega
  ·obtain rfl:i=l.length:=by omega
   go_wp2
   go_ret
   rw [List.take_length];exact ⟨rfl,by rw [←jdZ (kq juE cRn l k)];exact hrep,hon⟩
set_option maxRecDepth 8000 in
theorem jq6 (l:List Rn) (k:Int) (v:Value) (S:List Nat) (w:World) (own:Bool) (ha:Rep w own (jM (mkL juE cRn l k)) v S) (h0:0≤k) (h1:k+(kj cRn l:Nat)≤2305843009213693952) (h2:l.length≤2305843009213693952):
 Calls Tryz.prog 100 #[v,.int .i64 k] w fun e w'=>e=.returned (.int .i64 (k+(kj cRn l:Nat)))∧Below w.heap.size w w':=by
 obtain ⟨A,c,rfl,hc1,hc2,hca⟩:=Rep.open_ (size:=8) (enc:=jd) (fun _=>rfl) (by decide) ha
 rw [kq] at*;clear ha
 go_enter Tryz.func100,Tryz.ntmps100
 go_wp2
 go_loopw [1,5] (fun q i wr=>∃j:Nat,j≤l.length∧i=.int .i64 j∧q=.int .i64 (k+(kj cRn (l.take j):Nat))∧Below w.heap.size w wr) (fun _ i _=>l.length-(intOf i).toNat)
 case atStart=>exact ⟨0,by omega,rfl,by simp [kj],Below.refl _ _⟩
 case round=>
  obtain ⟨i,hi,rfl,rfl,hbel⟩:=hrel;by_cases hlt:i<l.length
  ·obtain ⟨x,hx⟩:=je hlt
   obtain ⟨b1,o1,vk1,T1,rfl,-,hr1,-,-,hb1,hx1⟩:=hca i _ (jfY juE cRn l k hx);clear hca
   ·skip
    have hts:=kL (tot:=cRn) hx;have htl:=qE cRn l (i+1);have hcx:cRn x=6+2*x.plan.edges.length+4*x.tasks.length:=rfl;obtain ⟨q,hq⟩:∃q,q=k+((kj cRn (l.take i):Nat):Int):=⟨_,rfl⟩;have HT:=Lib.hid (show q+1+1+1+1+1+2*(x.plan.edges.length:Int)+1+4*(x.tasks.length:Int)=k+((kj cRn (l.take (i+1)):Nat):Int) by omega)
    have hq0:0≤q:=by omega
    have hq1:q+1+1+1+1+1+2*(x.plan.edges.length:Int)+1+4*(x.tasks.length:Int)≤2305843009213693952:=by omega
    rw [←hq] at hr1⊢;clear hq hx hts htl hcx;obtain ⟨sv5,sv7,U0,U1,rfl,hs5,hs7,rfl⟩:=kh hr1;obtain ⟨A5,n5,rfl,hi5,hj5,-⟩:=Rep.open_ (size:=2) (enc:=jI) (fun _=>rfl) (by decide) hs5
    obtain ⟨A7,n7,rfl,hi7,hj7,-⟩:=Rep.open_ (size:=4) (enc:=jn) (fun _=>rfl) (by decide) hs7
    have p0:=ctm (b:=b1) (o:=o1+i*8) hbel (hx1 0 _ rfl);have p1:=ctm (b:=b1) (o:=o1+i*8+1) hbel (hx1 1 _ rfl);have p2:=ctm (b:=b1) (o:=o1+i*8+2) hbel (hx1 2 _ rfl);have p3:=ctm (b:=b1) (o:=o1+i*8+3) hbel (hx1 3 _ rfl);have p4:=ctm (b:=b1) (o:=o1+i*8+4) hbel (hx1 4 _ rfl);have p5:=ctm (b:=b1) (o:=o1+i*8+5) hbel (hx1 5 _ rfl);have p6:=ctm (b:=b1) (o:=o1+i*8+6) hbel (hx1 6 _ rfl);have p7:=ctm (b:=b1) (o:=o1+i*8+7) hbel (hx1 7 _ rfl);simp only [juE,kb] at*;have hnegA:decide (q+1+1+1+1+1+2*(x.plan.edges.length:Int)<0)=false:=by simp;omega
    have hnegB:decide (q+1+1+1+1+1+2*(x.plan.edges.length:Int)+1+4*(x.tasks.length:Int)<0)=false:=by simp;omega
    have hlr:b1<wr.heap.size:=by have:=hbel.size;omega
    clear hx1
    go_wp2_with (first
     |(go_at_call 178;refine (jom x.plan.edges.length (q+1+1+1+1+1) _ _ _ own (up hs5 (by first|exact hbel|assumption)) (by omega) (by omega)).mono ?_;rintro e wA ⟨rfl,hbA⟩;obtain ⟨hdA,hzA⟩:=qa hbA;have hlA:b1<wA.heap.size:=by have:=hbel.size;have:=hbA.size;omega)
     |(go_at_call 179;refine (jol x.tasks.length (q+1+1+1+1+1+2*(x.plan.edges.length:Int)+1) _ _ _ own (up hs7 (by first|exact (jy hbel hbA)|assumption)) (by omega) (by omega)).mono ?_;rintro e wB ⟨rfl,hbB⟩;obtain ⟨hdB,hzB⟩:=qa hbB;have hlB:b1<wB.heap.size:=by have:=hbel.size;have:=hbA.size;have:=hbB.size;omega))
    go_roundw
    case rel=>exact ⟨i+1,by omega,by go_num,by first|(rw [←HT.out])|(rw [←HT.out];go_num),(jy (jy hbel hbA) hbB)⟩
    case measure=>simp [intOf];omega
  ·obtain rfl:i=l.length:=by omega
   clear hca
   go_wp2
   go_ret
   rw [List.take_length];exact ⟨rfl,hbel⟩
def juD (y:Yd) (k:Int):Yd:=⟨y.now,y.seq,mkL jvJ c4 y.shelf k,mkL juE cRn y.runs (k+(kj c4 y.shelf:Int))⟩
def cYd (y:Yd):Nat:=kj c4 y.shelf+kj cRn y.runs
theorem jkd (y:Yd) (k:Int) (v:Value) (S:List Nat) (B:Nat) (w:World) (ha:AggRep w true (jb y) v S) (hF:Fresh B S) (h0:0≤k) (h1:k+(cYd y:Nat)≤2305843009213693952) (h2:y.shelf.length≤2305843009213693952) (h3:y.runs.length≤2305843009213693952):
 Calls Tryz.prog 26 #[v,.int .i64 k] w fun e w'=>e=.returned (.int .i64 (k+(cYd y:Nat)))∧AggRep w' true (jb (juD y k)) v S∧Only S w w':=by
 obtain ⟨_,rfl,ha⟩:=ha;obtain ⟨sv,rv,S1,S2,rfl,ah0,ah1,rfl⟩:=qf ha;clear ha;have hcy:(cYd y:Int)=(kj c4 y.shelf:Int)+(kj cRn y.runs:Int):=by simp [cYd]
 obtain ⟨A0,n0,m0,rfl⟩:=Rep.form ah0;obtain ⟨A1,n1,m1,rfl⟩:=Rep.form ah1;have hbx:w.heap.size∉S1:=fun h=>absurd (Rep.lt _ ah0 _ h) (Nat.lt_irrefl _)
 have hq1:k+(kj c4 y.shelf:Int)+(kj cRn y.runs:Int)≤2305843009213693952:=by omega
 have HC:=Lib.hid hcy;clear hcy h1;generalize ht1:(kj c4 y.shelf:Int)=t1 at*;generalize ht2:(kj cRn y.runs:Int)=t2 at*;have hp1:0≤t1:=by omega
 have hp2:0≤t2:=by omega
 have HT1:=Lib.hid ht1;have HT2:=Lib.hid ht2;clear ht1 ht2
 go_enter Tryz.func26,Tryz.ntmps26
 go_wp2_with (first
  |(go_at_call 97;go_loud (refine (jlk y.shelf k _ S1 B _ (upA ah0 _) hF.left h0 (by rw [HT1.out];omega) h2).mono ?_;rintro e w1 ⟨rfl,hr1,ho1⟩;(have hoc:=jvA ho1 (b:=w.heap.size) (by simp) hbx);obtain ⟨hd1,hz1⟩:=hoc;(have ah1':=(upA ah1 _).only ho1 (fun s hs ht=>hF.apart s ht hs));(have hs1:=ho1.size);simp at hs1;rw [HT1.out]))
  |(go_at_call 98;refine (jqN y.runs (k+t1) _ S2 B _ ah1' hF.right (by omega) (by rw [HT2.out];omega) h3).mono ?_;rintro e w2 ⟨rfl,hr2,ho2⟩;rw [HT2.out]))
 go_ret
 refine ⟨kT (by rw [HC.out];omega),⟨_,rfl,jas (y:=juD y k) (hr1.only ho2 (fun s hs ht=>hF.apart s hs ht)) (by unfold juD;rw [HT1.out];exact hr2)⟩,?_⟩
 exact ((Only.of_below (upB (Below.refl w.heap.size w) _)).trans (ho1.mono (T:=S1++S2) (fun s hs=>.inl (by simp [hs]))) (fun t ht=>.inl ht)).trans (ho2.mono (T:=S1++S2) (fun s hs=>.inl (by simp [hs]))) (fun t ht=>.inl ht)
theorem jq5 (y:Yd) (k:Int) (v:Value) (S:List Nat) (w:World) (own:Bool) (ha:AggRep w own (jb (juD y k)) v S) (h0:0≤k) (h1:k+(cYd y:Nat)≤2305843009213693952) (h2:y.shelf.length≤2305843009213693952) (h3:y.runs.length≤2305843009213693952):
 Calls Tryz.prog 27 #[v,.int .i64 k] w fun e w'=>e=.returned (.int .i64 (k+(cYd y:Nat)))∧Below w.heap.size w w':=by
 obtain ⟨_,rfl,ha⟩:=ha;obtain ⟨sv,rv,S1,S2,rfl,ah0,ah1,rfl⟩:=qf ha;clear ha;simp only [juD] at ah0 ah1;have hcy:(cYd y:Int)=(kj c4 y.shelf:Int)+(kj cRn y.runs:Int):=by simp [cYd]
 have hq1:k+(kj c4 y.shelf:Int)+(kj cRn y.runs:Int)≤2305843009213693952:=by omega
 have HC:=Lib.hid hcy;clear hcy h1;generalize ht1:(kj c4 y.shelf:Int)=t1 at*;generalize ht2:(kj cRn y.runs:Int)=t2 at*;have hp1:0≤t1:=by omega
 have hp2:0≤t2:=by omega
 have HT1:=Lib.hid ht1;have HT2:=Lib.hid ht2;clear ht1 ht2;have hn1:decide (k+t1<0)=false:=by simp;omega
 have hn2:decide (k+t1+t2<0)=false:=by simp;omega
 go_enter Tryz.func27,Tryz.ntmps27
 go_wp2_with (first
  |(go_at_call 99;refine (jlr y.shelf k _ _ _ own (upA ah0 _) h0 (by rw [HT1.out];omega) h2).mono ?_;rintro e w1 ⟨rfl,hb1⟩;obtain ⟨hc1,hf1⟩:=qa hb1;rw [HT1.out])
  |(go_at_call 100;refine (jq6 y.runs (k+t1) _ _ _ own (up (upA ah1 _) hb1) (by omega) (by rw [HT2.out];omega) h3).mono ?_;rintro e w2 ⟨rfl,hb2⟩;obtain ⟨hc2,hf2⟩:=qa hb2;rw [HT2.out]))
 go_ret
 exact ⟨kT (by rw [HC.out];omega),jy (jy (upB (Below.refl w.heap.size w) _) hb1) hb2⟩
end Go.Proofs.YtmnpailnelmpiaaGreat
