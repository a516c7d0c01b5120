/- Parts. -/
import Derived.Test.YtmnpailnelmpiaaGreatQHole
import Derived.Shelf.Spec.SlicesInsertGrow
import Derived.Lib.Overlaps
set_option linter.unusedSimpArgs false
set_option linter.unusedVariables false
set_option maxHeartbeats 4000000
namespace Go.Proofs.YtmnpailnelmpiaaGreat
open Go.RowKit Go.Sort Go.Lib
theorem jc4 {P:Program} (w:World) (dT sT ty elem:TypeId) (k b o dLen dCap:Nat) (a:Addr) (sLen sCap:Nat) (cs:List Value)
 (hu:P.underlying dT=some (.slice elem)) (hs:(P.info? elem).map (·.size)=some k) (hn:cs.length=Nat.min sLen dLen*k)
 (hsrc:∀j v,cs[j]?=some v→w.cell? (a.add j)=some v) (hc:∀j,j<cs.length→(w.cell? ⟨b,o+j,none⟩).isSome=true) (hf:∀j,j<cs.length→w.frozen? ⟨b,o+j,none⟩=false) (h1:∀v∈cs,v.oneCell'=true):
 (Builtin.copy_ #[dT,sT] ty #[.slice (some ⟨b,o,none⟩) dLen dCap,.slice (some a) sLen sCap]).run P w=.ok (goInt (Nat.min sLen dLen)) (w.setCells b o cs):=by
 have hl:=run_loadCells_list (P:=P) w a cs hsrc;have hst:=run_storeCells_cells (P:=P) b o cs 0 w (by simpa using hc) (by simpa using hf) h1
 cases hq:P.info? elem with
 |none=>simp [hq] at hs
 |some i=>
  have hi:i.size=k:=by simpa [hq] using hs
  simp [Builtin.copy_,run_underlying hu,Builtin.lenOf,Builtin.firstCells,sizeOf,typeInfo,hq,hi,←hn,hl,hst]
abbrev jyI:FuncId:=290
abbrev tEs:TypeId:=102
set_option maxRecDepth 100000 in
theorem jtO (b n c i vb vc:Nat) (cs vs:List Value) (w:World) (hi:i<n) (hroom:n+1≤c) (hc63:c≤9223372036854775807) (hvb:vb≠b)
 (hcl:cs.length=n*4) (hvl:vs.length=4)
 (hcs:∀j v,cs[j]?=some v→w.cell? ⟨b,j,none⟩=some v) (hsp:∀j,j<(n+1)*4→(w.cell? ⟨b,j,none⟩).isSome=true) (hfz:∀j,j<(n+1)*4→w.frozen? ⟨b,j,none⟩=false)
 (hvs:∀j v,vs[j]?=some v→w.cell? ⟨vb,j,none⟩=some v) (h1c:∀v∈cs,v.oneCell'=true) (h1v:∀v∈vs,v.oneCell'=true)
 (tA tB:TypeId) (kA kB:Nat) (hsa:w.shape? vb=some (tA,kA)) (hsb:w.shape? b=some (tB,kB)) (hkB:kB≠0) (hfa:w.frozen? ⟨vb,0,none⟩=false) (hfe:w.frozen? ⟨vb,kA,none⟩=false):
 Calls Tryz.prog jyI #[.slice (some ⟨b,0,none⟩) n c,.int .i64 i,.slice (some ⟨vb,0,none⟩) 1 vc] w fun e w'=>
  e=.returned (.slice (some ⟨b,0,none⟩) (n+1) c)∧w'=(w.drew.setCells b ((i+1)*4) (cs.drop (i*4))).setCells b (i*4) vs:=by
 have hz1:¬((1:Int)=0):=by omega
 have hz2:¬((i:Int)=(n:Int)):=by omega
 have hov:∀lb cb,(callFunc 296 #[.slice (some ⟨vb,0,none⟩) 1 vc,.slice (some ⟨b,(i+1)*4,none⟩) lb cb]).run Tryz.prog w=.ok (.value (.bool false)) w:=fun lb cb=>by
  rw [run_callFunc_extern Tryz.func296 (by kernel_rfl) (by kernel_rfl) (by kernel_rfl) (e:=Extern.SlicesOverlaps.overlaps #[tEs,tEs] #[4]) (by kernel_rfl),
   Lib.run_overlaps_apart w tEs 4 tEn slEn.1 4 Tryz.sizeOf111 ⟨vb,0,none⟩ ⟨b,(i+1)*4,none⟩ 1 vc lb cb hvb tA tB kA kB hsa hsb hkB hfa hfe]
  rfl
 have hu:Tryz.prog.underlying tEs=some (.slice tEn):=slEn.1;have mixed:Tryz.prog.follows .mixedOrders=true:=by kernel_rfl
 have t105:=Tryz.underlying102;have a105:=Tryz.isAgg102;have z105:=Tryz.sizeOf102;have u3:=Tryz.underlying3;have a3:=Tryz.isAgg3;have z3:=Tryz.sizeOf3;have u4:=Tryz.underlying4;have z107:=Tryz.sizeOf111;have hdl:(cs.drop (i*4)).length=(n-i)*4:=by rw [List.length_drop,hcl];omega
 have hw1:IntKind.i64.wrap ((i:Int)+1)=(i:Int)+1:=by rw [IntKind.wrap_i64];omega
 have hwn:IntKind.i64.wrap ((n:Int)+1)=(n:Int)+1:=by rw [IntKind.wrap_i64];omega
 have hb1:(0:Int)≤(i:Int)+1:=by omega
 have hb0:(0:Int)≤(n:Int)+1:=by omega
 have hin:i≤n:=by omega
 have htn:((i:Int)+1).toNat=i+1:=by omega
 have htn2:((n:Int)+1).toNat=n+1:=by omega
 have hb2:¬(c=i+1):=by omega
 have hb3:(i:Int)≤(n:Int)+1:=by omega
 have hb4:¬(c=i):=by omega
 have hgt:¬((n:Int)+1>(c:Int)):=by omega
 have hcp1:∀ty dc sc,(Builtin.copy_ #[tEs,tEs] ty #[.slice (some ⟨b,(i+1)*4,none⟩) (n-i) dc,.slice (some ⟨b,i*4,none⟩) (n+1-i) sc]).run Tryz.prog w.drew=.ok (goInt (Nat.min (n+1-i) (n-i))) (w.drew.setCells b ((i+1)*4) (cs.drop (i*4))):=fun ty dc sc=>
  jc4 w.drew _ _ ty tEn 4 b ((i+1)*4) (n-i) dc ⟨b,i*4,none⟩ (n+1-i) sc (cs.drop (i*4)) hu jBo (by rw [hdl];congr 1;simp only [Nat.min_def];split<;>omega)
   (fun j v hj=>by rw [Addr.add_lit];exact hcs (i*4+j) v (by rwa [List.getElem?_drop] at hj))
   (fun j hj=>hsp _ (by omega)) (fun j hj=>hfz _ (by omega)) (fun v hv=>h1c v (List.mem_of_mem_drop hv))
 obtain ⟨W1,hW1⟩:∃W1,W1=w.drew.setCells b ((i+1)*4) (cs.drop (i*4)):=⟨_,rfl⟩
 have hsp1:∀k,k<(n+1)*4→(W1.cell? ⟨b,k,none⟩).isSome=true:=fun k hk=>by
  rw [hW1];exact isSome_setCells b (cs.drop (i*4)) ((i+1)*4) w.drew (fun j hj=>hsp _ (by omega)) k (hsp k hk)
 have hcp2:∀(W:World),(∀x,W.cell? x=W1.cell? x)→(∀x,W.frozen? x=W1.frozen? x)→∀ty dc,(Builtin.copy_ #[tEs,tEs] ty #[.slice (some ⟨b,i*4,none⟩) (n+1-i) dc,.slice (some ⟨vb,0,none⟩) 1 vc]).run Tryz.prog W=.ok (goInt (Nat.min 1 (n+1-i))) (W.setCells b (i*4) vs):=fun W hWc hWf ty dc=>
  jc4 W _ _ ty tEn 4 b (i*4) (n+1-i) dc ⟨vb,0,none⟩ 1 vc vs hu jBo (by rw [hvl];simp only [Nat.min_def];split<;>omega)
   (fun j v hj=>by
    rw [Addr.add_lit,Nat.zero_add,hWc,hW1,World.cell?_setCells_out b _ _ _ _ (fun h _=>absurd h hvb)]
    exact hvs j v hj)
   (fun j hj=>by rw [hWc];exact hsp1 _ (by omega)) (fun j hj=>by rw [hWf,hW1,World.frozen?_setCells];exact hfz _ (by omega)) h1v
 rw [←hW1] at hcp1
 go_enter Tryz.func290,Tryz.ntmps290
 go_wp2_with (simp only [hov])
 go_region_law_o (refine step_copy_runI rfl _ _ tEs tEs rfl _ _ (by simp [Act.eval,Act.put]) (by simp [Act.eval,Act.put]) (hcp1 _ _ _) ?_)
 go_wp2_with (at_builtin;refine wpList_copy_runI _ rfl _ _ tEs tEs rfl _ _ rfl rfl (hcp2 _ (fun _=>rfl) (fun _=>rfl) _ _) ?_)
 go_ret
 first|exact ⟨rfl,rfl⟩|exact ⟨rfl,by rw [hW1]⟩
set_option maxRecDepth 100000 in
theorem jvW (b n c i vb vc:Nat) (cs vs:List Value) (w:World) (hi:i<n) (hnc:n≤c) (hroom:c<n+1) (hbig:(n+1)*32≤140737488355328)
 (hcl:cs.length=n*4) (hvl:vs.length=4)
 (hcs:∀j v,cs[j]?=some v→w.cell? ⟨b,j,none⟩=some v) (hvs:∀j v,vs[j]?=some v→w.cell? ⟨vb,j,none⟩=some v) (h1c:∀v∈cs,v.oneCell'=true) (h1v:∀v∈vs,v.oneCell'=true):
 Calls Tryz.prog jyI #[.slice (some ⟨b,0,none⟩) n c,.int .i64 i,.slice (some ⟨vb,0,none⟩) 1 vc] w fun e w'=>∃(G:Nat) (ROW:Array Value),n+1≤G∧G≤maxLen∧ROW.size=G*4∧(∀j,j<i*4→ROW[j]?=cs[j]?)∧
  e=.returned (.slice (some ⟨w.heap.size,0,none⟩) (n+1) G)∧
  w'=(((w.alloc (.cells ROW tEn)).drew.setCells w.heap.size (i*4) vs).drew).setCells w.heap.size ((i+1)*4) (cs.drop (i*4)):=by
 have hu:Tryz.prog.underlying tEs=some (.slice tEn):=slEn.1;have mixed:Tryz.prog.follows .mixedOrders=true:=by kernel_rfl
 have t105:=Tryz.underlying102;have a105:=Tryz.isAgg102;have z105:=Tryz.sizeOf102;have u3:=Tryz.underlying3;have a3:=Tryz.isAgg3;have z3:=Tryz.sizeOf3;have u4:=Tryz.underlying4;have z107:=Tryz.sizeOf111;obtain ⟨i0,zv,hi0,hz0,hzc,hzs,hzb⟩:=slEn.info;have hz1:¬((1:Int)=0):=by omega
 have hz2:¬((i:Int)=(n:Int)):=by omega
 have hz3:(c:Int)<(n:Int)+1:=by omega
 have hbw:b<w.heap.size:=block_lt_of_cell (hcs 0 _ (List.getElem?_eq_getElem (by omega)))
 have hvw:vb<w.heap.size:=block_lt_of_cell (hvs 0 _ (List.getElem?_eq_getElem (by omega)))
 have hkk:(n:Int)+1-(i:Int)=((n+1-i:Nat):Int):=by omega
 have hik:i+(n+1-i)=n+1:=by omega
 have hold:(Builtin.firstCells i0.size i (.slice (some ⟨b,0,none⟩) i c)).run Tryz.prog w.drew=.ok (cs.take (i*4)).toArray w.drew:=by
  rw [hzs]
  exact run_firstCells_some (w:=w.drew) 4 i ⟨b,0,none⟩ i c (cs.take (i*4)) (by rw [List.length_take];omega) (fun j v hj=>by
   rw [Addr.add_lit,Nat.zero_add];rw [List.getElem?_take] at hj;split at hj
   ·exact hcs j v hj
   ·cases hj)
 have hrz:∀ty,(Builtin.append_ #[tEs,3] ty #[.slice (some ⟨b,0,none⟩) i c,.int .i64 ((n:Int)+1-(i:Int))]).run Tryz.prog w=
  .ok (.slice (some ⟨w.heap.size,0,none⟩) (n+1) (grownCap w (n+1) c tEn)) (w.drew.alloc (.cells ((cs.take (i*4)).toArray++Builtin.zeroCells zv.cells (n+1-i)++Builtin.zeroCells zv.cells (grownCap w (n+1) c tEn-(n+1))) tEn)):=fun ty=>by
  have h:=Lib.run_append_grow_zeros w tEs 3 ty tEn i0 _ .i64 .i64 hu u3 hi0 hz0 (some ⟨b,0,none⟩) i c (cs.take (i*4)) hold (n+1-i) (by omega) (by omega) (by omega) (by omega) (by rw [hzb];omega) (by rw [hzb,hik];exact growslice_fits hroom hbig)
  rw [hik] at h;rw [hkk];exact h
 obtain ⟨G,hG⟩:∃G,G=grownCap w (n+1) c tEn:=⟨_,rfl⟩;obtain ⟨ROW,hROW⟩:∃ROW:Array Value,ROW=(cs.take (i*4)).toArray++Builtin.zeroCells zv.cells (n+1-i)++Builtin.zeroCells zv.cells (G-(n+1)):=⟨_,rfl⟩;rw [←hG] at hrz;rw [←hROW] at hrz;have hzl:zv.cells.size=4:=by rw [hzc];rfl
 have hGn:n+1≤G:=by rw [hG];exact grownCap_ge w _ _ _
 have hGm:G≤maxLen:=by rw [hG];exact grownCap_le_maxLen w (n+1) c tEn (by unfold maxLen;omega)
 have hRs:ROW.size=G*4:=by
  rw [hROW];simp [Builtin.zeroCells,hzl];omega
 have hRt:∀j,j<i*4→ROW[j]?=cs[j]?:=fun j hj=>by
  rw [hROW,Array.append_assoc,Array.getElem?_append_left (by simp;omega)]
  simp [List.getElem?_take,hj]
 have hRl:(n+1)*4≤ROW.size:=by rw [hRs];omega
 obtain ⟨W1,hW1⟩:∃W1,W1=w.drew.alloc (.cells ROW tEn):=⟨_,rfl⟩;rw [←hW1] at hrz
 have hN:∀j,j<(n+1)*4→(W1.cell? ⟨w.heap.size,j,none⟩).isSome=true:=fun j hj=>by
  rw [hW1,World.cell?_alloc_at (w:=w.drew) ROW _ w.heap.size j rfl,Array.getElem?_eq_getElem (by omega)];rfl
 have hNf:∀j,W1.frozen? ⟨w.heap.size,j,none⟩=false:=fun j=>by rw [hW1];exact World.frozen?_alloc_at (w:=w.drew) ROW _ w.heap.size j rfl
 have hOb:∀j v,w.cell? ⟨b,j,none⟩=some v→W1.cell? ⟨b,j,none⟩=some v:=fun j v h=>by rw [hW1,World.cell?_alloc_past (w:=w.drew) _ b j hbw];exact h
 have hOv:∀j v,w.cell? ⟨vb,j,none⟩=some v→W1.cell? ⟨vb,j,none⟩=some v:=fun j v h=>by rw [hW1,World.cell?_alloc_past (w:=w.drew) _ vb j hvw];exact h
 have hcpA:∀(W:World),(∀x,W.cell? x=W1.cell? x)→(∀x,W.frozen? x=W1.frozen? x)→∀ty dc,(Builtin.copy_ #[tEs,tEs] ty #[.slice (some ⟨w.heap.size,i*4,none⟩) (n+1-i) dc,.slice (some ⟨vb,0,none⟩) 1 vc]).run Tryz.prog W=.ok (goInt (Nat.min 1 (n+1-i))) (W.setCells w.heap.size (i*4) vs):=fun W hWc hWf ty dc=>
  jc4 W _ _ ty tEn 4 w.heap.size (i*4) (n+1-i) dc ⟨vb,0,none⟩ 1 vc vs hu jBo (by rw [hvl];simp only [Nat.min_def];split<;>omega)
   (fun j v hj=>by rw [Addr.add_lit,Nat.zero_add,hWc];exact hOv _ v (hvs j v hj))
   (fun j hj=>by rw [hWc];exact hN _ (by omega)) (fun j hj=>by rw [hWf];exact hNf _) h1v
 have hG63:G≤9223372036854775807:=by
  unfold maxLen at hGm;omega
 have hGi:¬(G=i):=by omega
 have hGim:¬(G=i+1):=by omega
 have hci:¬(c=i):=by omega
 have hbN:b≠w.heap.size:=by omega
 have hdl:(cs.drop (i*4)).length=(n-i)*4:=by rw [List.length_drop,hcl];omega
 have hcpB:∀(W:World),(∀x,W.cell? x=(W1.setCells w.heap.size (i*4) vs).cell? x)→(∀x,W.frozen? x=(W1.setCells w.heap.size (i*4) vs).frozen? x)→∀ty dc sc,(Builtin.copy_ #[tEs,tEs] ty #[.slice (some ⟨w.heap.size,(i+1)*4,none⟩) (n-i) dc,.slice (some ⟨b,i*4,none⟩) (n-i) sc]).run Tryz.prog W=.ok (goInt (Nat.min (n-i) (n-i))) (W.setCells w.heap.size ((i+1)*4) (cs.drop (i*4))):=fun W hWc hWf ty dc sc=>
  jc4 W _ _ ty tEn 4 w.heap.size ((i+1)*4) (n-i) dc ⟨b,i*4,none⟩ (n-i) sc (cs.drop (i*4)) hu jBo (by rw [hdl];congr 1;simp only [Nat.min_def];split<;>omega)
   (fun j v hj=>by
    rw [Addr.add_lit,hWc,World.cell?_setCells_out _ _ _ _ _ (fun h _=>absurd h hbN)]
    exact hOb _ v (hcs (i*4+j) v (by rwa [List.getElem?_drop] at hj)))
   (fun j hj=>by rw [hWc];exact isSome_setCells w.heap.size vs (i*4) W1 (fun t ht=>hN _ (by omega)) _ (hN _ (by omega)))
   (fun j hj=>by rw [hWf,World.frozen?_setCells];exact hNf _) (fun v hv=>h1c v (List.mem_of_mem_drop hv))
 subst hW1;have hE1:∀x,((w.alloc (.cells ROW tEn)).drew).cell? x=(w.drew.alloc (.cells ROW tEn)).cell? x:=fun x=>rfl
 have hE2:∀x,((w.alloc (.cells ROW tEn)).drew).frozen? x=(w.drew.alloc (.cells ROW tEn)).frozen? x:=fun x=>rfl
 have hF1:∀x,(((w.alloc (.cells ROW tEn)).drew.setCells w.heap.size (i*4) vs).drew).cell? x=((w.drew.alloc (.cells ROW tEn)).setCells w.heap.size (i*4) vs).cell? x:=fun x=>rfl
 have hF2:∀x,(((w.alloc (.cells ROW tEn)).drew.setCells w.heap.size (i*4) vs).drew).frozen? x=((w.drew.alloc (.cells ROW tEn)).setCells w.heap.size (i*4) vs).frozen? x:=fun x=>rfl
 have hw1:IntKind.i64.wrap ((i:Int)+1)=(i:Int)+1:=by rw [IntKind.wrap_i64];omega
 have hwn:IntKind.i64.wrap ((n:Int)+1)=(n:Int)+1:=by rw [IntKind.wrap_i64];omega
 have hwk:IntKind.i64.wrap ((n:Int)+1-(i:Int))=(n:Int)+1-(i:Int):=by rw [IntKind.wrap_i64];omega
 have hb1:(0:Int)≤(i:Int)+1:=by omega
 have hin:i≤n:=by omega
 have htn:((i:Int)+1).toNat=i+1:=by omega
 have hb3:(i:Int)≤(n:Int):=by omega
 clear hkk hik hold hROW hG hRl
 go_enter Tryz.func290,Tryz.ntmps290
 go_wp2_with (first
  |(at_builtin;refine Lib.wpList_append_run _ rfl _ _ _ _ rfl _ _ rfl rfl _ _ (hrz _) ?_)
  |(at_builtin;refine wpList_copy_runI _ rfl _ _ tEs tEs rfl _ _ rfl rfl (hcpA _ hE1 hE2 _ _) ?_)
  |(at_builtin;refine wpList_copy_runI _ rfl _ _ tEs tEs rfl _ _ rfl rfl (hcpB _ (fun _=>rfl) (fun _=>rfl) _ _ _) ?_))
 go_region_law_o (refine step_copy_runI rfl _ _ tEs tEs rfl (.slice (some ⟨w.heap.size,(i+1)*4,none⟩) (n-i) (G-(i+1))) (.slice (some ⟨b,i*4,none⟩) (n-i) (c-i)) (by simp [Act.eval,Act.put]) (by simp [Act.eval,Act.put]) (hcpB _ hF1 hF2 3 (G-(i+1)) (c-i)) ?_)
 go_wp2
 go_ret
 exact ⟨G,ROW,hGn,hGm,hRs,hRt,rfl,rfl⟩
set_option maxRecDepth 100000 in
theorem jyy (A:Option Addr) (n c vb vc:Nat) (w:World) (v':Value) (w':World) (hnc:n≤c) (hc63:c≤9223372036854775807) (hA:A=none→c=0) (hA2:∀a,A=some a→∃b,a=⟨b,0,none⟩)
 (hrun:(Builtin.append_ #[tEs,tEs] tEs #[.slice A n c,.slice (some ⟨vb,0,none⟩) 1 vc]).run Tryz.prog w=.ok v' w'):
 Calls Tryz.prog jyI #[.slice A n c,.int .i64 n,.slice (some ⟨vb,0,none⟩) 1 vc] w fun e w1=>e=.returned v'∧w1=w':=by
 have mixed:Tryz.prog.follows .mixedOrders=true:=by kernel_rfl
 have t105:=Tryz.underlying102;have a105:=Tryz.isAgg102;have z105:=Tryz.sizeOf102;have u3:=Tryz.underlying3;have a3:=Tryz.isAgg3;have z3:=Tryz.sizeOf3;have u4:=Tryz.underlying4;have z107:=Tryz.sizeOf111;have hz1:¬((1:Int)=0):=by omega
 go_enter Tryz.func290,Tryz.ntmps290
 cases A with
 |none=>
  have h0:=hA rfl;subst h0;obtain rfl:n=0:=by omega
  go_wp2_with (at_builtin;refine Lib.wpList_append_run _ rfl _ _ _ _ rfl _ _ rfl rfl _ _ hrun ?_)
  go_ret
  exact ⟨rfl,rfl⟩
 |some a=>
  obtain ⟨b,rfl⟩:=hA2 a rfl
  go_wp2_with (at_builtin;refine Lib.wpList_append_run _ rfl _ _ _ _ rfl _ _ rfl rfl _ _ hrun ?_)
  all_goals (go_ret;exact ⟨rfl,rfl⟩)
def jkP (l:List En) (i:Nat) (e:En):List En:=l.take i++e::l.drop i
def jL (l:List En):List Value:=l.flatMap fun e=>[.int .i64 e.prio,.int .i64 e.seq,.int .i64 e.run,.int .i64 e.task]
theorem zf (l:List En):(jL l).length=l.length*4:=by
 induction l with
 |nil=>rfl
 |cons a l ih=>simp only [jL,List.flatMap_cons,List.length_append] at ih⊢;simp [ih];omega
theorem jlb {w:World} {own:Bool}:∀{l:List En} {vs:List Value} {S:List Nat},RepL w own (l.flatMap jf) vs S→vs=jL l∧S=[]
 |[],_,_,h=>by obtain ⟨rfl,rfl⟩:=h;exact ⟨rfl,rfl⟩
 |e::l,vs,S,h=>by
  rw [List.flatMap_cons] at h;obtain ⟨v1,v2,S1,S2,rfl,rfl,h1,h2⟩:=RepL.append_inv _ h;obtain ⟨rfl,rfl⟩:=jfi h1;obtain ⟨rfl,rfl⟩:=jlb h2;exact ⟨rfl,rfl⟩
theorem jog (w:World) (own:Bool):∀(l:List En),RepL w own (l.flatMap jf) (jL l) []
 |[]=>⟨rfl,rfl⟩
 |e::l=>by
  have:=RepL.append_ _ (jwe w own e) (jog w own l);simpa [jL] using this
theorem jaY (l:List En):∀v∈jL l,v.oneCell'=true:=by
 intro v hv;obtain ⟨e,_,h⟩:=List.mem_flatMap.1 hv;simp at h;rcases h with rfl|rfl|rfl|rfl<;>rfl
theorem joh (l:List En) (i:Nat) (hi:i≤l.length):(jL l).take (i*4)=jL (l.take i)∧(jL l).drop (i*4)=jL (l.drop i):=by
 have e1:jL l=jL (l.take i)++jL (l.drop i):=by rw [jL,jL,jL,←List.flatMap_append,List.take_append_drop]
 have h1:(jL (l.take i)).length=i*4:=by rw [zf,List.length_take,Nat.min_eq_left hi]
 rw [e1];exact ⟨List.take_left' h1,List.drop_left' h1⟩
theorem jqO (l:List En) (i:Nat) (e:En):jL (jkP l i e)=jL (l.take i)++(jL [e]++jL (l.drop i)):=by
 simp [jkP,jL]
theorem jln {w:World} {b:Nat} {cur:Array Value} {ty:TypeId} (h:w.heap[b]?=some (.cells cur ty (0,0))):w.shape? b=some (ty,cur.size)∧∀j,w.frozen? ⟨b,j,none⟩=false:=by
 refine ⟨by simp [World.shape?,h],fun j=>by simp [World.frozen?,h]⟩
theorem jmn {w:World} {b:Nat} {cur:Array Value} {ty:TypeId} (h:w.heap[b]?=some (.cells cur ty (0,0))) (j:Nat):w.cell? ⟨b,j,none⟩=cur[j]?:=by simp [World.cell?,h]
theorem jlf {α:Type} {us cs:List α} {k:Nat} (h:us.take k=cs) {j:Nat} {v:α} (hj:cs[j]?=some v):us[j]?=some v:=by
 rw [←h,List.getElem?_take] at hj;split at hj
 ·exact hj
 ·cases hj
theorem jwP {w:World} {b n cap:Nat} {us:List Value} {l:List En} (hb:w.heap[b]?=some (.cells us.toArray tEn (0,0))) (hn:n=l.length) (hc:n≤cap) (hm:cap≤maxLen) (hs:us.length=cap*4) (ht:us.take (n*4)=jL l):Rep w true (jm l) (.slice (some ⟨b,0,none⟩) n cap) [b]:=by
 subst hn;exact ⟨jL l,[b],[],⟨l.length,⟨zf l,.inr ⟨b,cap,us.toArray,rfl,Nat.zero_le _,hb,hc,hm,by simpa using hs,by simpa using ht⟩⟩,rfl⟩,jog _ _ _,by simp⟩
theorem jyx (l:List En) (i:Nat) (e:En) (hi:i≤l.length) (hl:l.length≤4000000) {B:Nat} {w:World} {x x2:Value} {S1 S2:List Nat} (r1:Rep w true (jm l) x S1) (r2:Rep w true (jm [e]) x2 S2) (hF:Fresh B (S1++S2)) (hB:B≤w.heap.size):
 Calls Tryz.prog jyI #[x,.int .i64 i,x2] w fun en w'=>∃v S,en=.returned v∧Rep w' true (jm (jkP l i e)) v S∧Fresh B S∧Only S1 w w'∧∀s∈S,s∈S1∨w.heap.size≤s:=by
 have r1':=r1;obtain ⟨vs1,T1,o1,h1,rfl⟩:=Rep.own (enc:=jf) jqk (by decide) r1
 obtain ⟨rfl,rfl⟩:=jlb h1;obtain ⟨vs2,T2,o2,h2,rfl⟩:=Rep.own (enc:=jf) jqk (by decide) r2
 obtain ⟨rfl,rfl⟩:=jlb h2;rcases o2.2 with ⟨_,hz⟩|⟨vb,vc,cv,rfl,_,hbv,hv1,hv2,hv3,hv4⟩
 ·simp at hz
 simp only [List.length_cons,List.length_nil,Nat.zero_add] at hv4⊢hv1
 have hvs:∀j v,(jL [e])[j]?=some v→w.cell? ⟨vb,j,none⟩=some v:=fun j v hj=>by
  rw [jmn hbv,←Array.getElem?_toList];exact jlf hv4 hj
 rcases Nat.lt_or_ge i l.length with hlt|hge
 ·rcases o1.2 with ⟨_,hz⟩|⟨b,c,cu,rfl,_,hbc,hc1,hc2,hc3,hc4⟩
  ·omega
  have hcs:∀j v,(jL l)[j]?=some v→w.cell? ⟨b,j,none⟩=some v:=fun j v hj=>by
   rw [jmn hbc,←Array.getElem?_toList];exact jlf hc4 hj
  have hbB:B≤b:=hF.2 b (by simp [blk])
  have hne:vb≠b:=fun h=>by subst h;have:=hF.1;simp [blk] at this
  obtain ⟨t1,t2⟩:=joh l i hi;have hfin:=jqO l i e;have hlen:(jkP l i e).length=l.length+1:=by simp [jkP];omega
  have hl4:=zf l;have hd4:(jL (l.drop i)).length=(l.length-i)*4:=by rw [zf,List.length_drop]
  have ht4:(jL (l.take i)).length=i*4:=by rw [zf,List.length_take,Nat.min_eq_left hi]
  have he4:(jL [e]).length=4:=rfl;by_cases hroom:l.length+1≤c
  ·obtain ⟨sv1,sv2⟩:=jln hbv
   obtain ⟨sb1,sb2⟩:=jln hbc;have hcul:cu.toList.length=c*4:=by simpa using hc3
   refine (jtO b l.length c i vb vc (jL l) (jL [e]) w hlt hroom (by unfold maxLen at hc2;omega) hne (zf l) rfl hcs (fun j hj=>by rw [jmn hbc,Array.getElem?_eq_getElem (by omega)];rfl) (fun j _=>sb2 j) hvs (jaY l) (jaY [e]) _ _ _ _ sv1 sb1 (by omega) (sv2 0) (sv2 _)).mono ?_
   rintro en w' ⟨rfl,rfl⟩;have hcu:w.drew.heap[b]?=some (.cells cu.toList.toArray tEn (0,0)):=by rw [Array.toArray_toList];exact hbc
   obtain ⟨q1,q2⟩:=qm ((jL l).drop (i*4)) w.drew b ((i+1)*4) cu.toList tEn hcu;obtain ⟨q3,q4⟩:=qm (jL [e]) _ b (i*4) _ tEn q1;have s1:=kH ((jL l).drop (i*4)) w.drew b ((i+1)*4);have s2:=kH (jL [e]) (w.drew.setCells b ((i+1)*4) ((jL l).drop (i*4))) b (i*4);refine ⟨_,[b],rfl,jwP q3 hlen.symm hroom hc2 ?_ ?_,Fresh.one _ _ hbB,⟨by rw [s2.1,s1.1];rfl,by rw [s2.2.1,s1.2.1];rfl,by rw [s2.2.2.1,s1.2.2.1];rfl,by rw [s2.2.2.2,s1.2.2.2];exact Nat.le_refl _,fun k hk hkn=>?_⟩,fun s hs=>.inl (by simpa [blk] using hs)⟩
   ·rw [t2,kQ _ _ _ (by rw [kQ _ _ _ (by omega)];simp only [List.length_append,List.length_take,List.length_drop];omega),kQ _ _ _ (by omega)]
    simp only [List.length_append,List.length_take,List.length_drop];omega
   ·rw [t2,kQ (jL (l.drop i)) cu.toList _ (by omega)]
    have p1:cu.toList.take ((i+1)*4)=cu.toList.take (i*4)++(cu.toList.drop (i*4)).take 4:=by
     rw [show (i+1)*4=i*4+4 by omega,List.take_add]
    have p2:cu.toList.take (i*4)=jL (l.take i):=by
     rw [←t1,←hc4,List.take_take,Nat.min_eq_left (by omega)]
    have p3:((cu.toList.drop (i*4)).take 4).length=4:=by rw [List.length_take,List.length_drop];omega
    rw [p1,p2];generalize (cu.toList.drop (i*4)).take 4=X at p3;generalize cu.toList.drop ((i+1)*4+(jL (l.drop i)).length)=Y
    have hX0:kC X 0 (jL [e])=jL [e]:=by
     rw [kQ _ _ _ (by omega),List.take_zero,List.nil_append,List.drop_eq_nil_of_le (by omega),List.append_nil]
    have hA:jL (l.take i)++X++jL (l.drop i)++Y=jL (l.take i)++(X++(jL (l.drop i)++Y)):=by simp only [List.append_assoc]
    rw [hA,jmM (j:=0) (by omega) (by omega),hX0,hfin]
    have hB2:jL (l.take i)++(jL [e]++(jL (l.drop i)++Y))=(jL (l.take i)++(jL [e]++jL (l.drop i)))++Y:=by simp only [List.append_assoc]
    rw [hB2];exact List.take_left' (by simp only [List.length_append];omega)
   ·rw [q4 k (by simpa [blk] using hkn),q2 k (by simpa [blk] using hkn)];rfl
  ·refine (jvW b l.length c i vb vc (jL l) (jL [e]) w hlt hc1 (by omega) (by omega) (zf l) rfl hcs hvs (jaY l) (jaY [e])).mono ?_
   rintro en w' ⟨G,ROW,g1,g2,g3,g4,rfl,rfl⟩;have hrl:ROW.toList.length=G*4:=by simpa using g3
   have hnew:((w.alloc (.cells ROW tEn)).drew).heap[w.heap.size]?=some (.cells ROW.toList.toArray tEn (0,0)):=by
    rw [Array.toArray_toList];exact heap_alloc_new w (.cells ROW tEn)
   obtain ⟨q1,q2⟩:=qm (jL [e]) ((w.alloc (.cells ROW tEn)).drew) w.heap.size (i*4) ROW.toList tEn hnew;obtain ⟨q3,q4⟩:=qm ((jL l).drop (i*4)) (((w.alloc (.cells ROW tEn)).drew.setCells w.heap.size (i*4) (jL [e])).drew) w.heap.size ((i+1)*4) _ tEn q1;have s1:=kH (jL [e]) ((w.alloc (.cells ROW tEn)).drew) w.heap.size (i*4);have s2:=kH ((jL l).drop (i*4)) (((w.alloc (.cells ROW tEn)).drew.setCells w.heap.size (i*4) (jL [e])).drew) w.heap.size ((i+1)*4);have hal:Below w.heap.size w (w.alloc (.cells ROW tEn)):=(Below.refl _ _).alloc (by simp) _
   refine ⟨_,[w.heap.size],rfl,jwP q3 hlen.symm g1 g2 ?_ ?_,Fresh.one _ _ hB,⟨by rw [s2.1];exact s1.1.trans hal.os,by rw [s2.2.1];exact s1.2.1.trans hal.tape,by rw [s2.2.2.1];exact s1.2.2.1.trans hal.output,?_,fun k hk hkn=>?_⟩,fun s hs=>.inr (by simp at hs;omega)⟩
   ·rw [t2,kQ _ _ _ (by rw [kQ _ _ _ (by omega)];simp only [List.length_append,List.length_take,List.length_drop];omega),kQ _ _ _ (by omega)]
    simp only [List.length_append,List.length_take,List.length_drop];omega
   ·rw [t2,kQ (jL [e]) ROW.toList _ (by omega)]
    have p2:ROW.toList.take (i*4)=jL (l.take i):=by
     rw [←t1]
     apply List.ext_getElem?
     intro j;rw [List.getElem?_take,List.getElem?_take];split
     ·rename_i hj;rw [Array.getElem?_toList];exact g4 j hj
     ·rfl
    rw [p2];generalize hY:ROW.toList.drop (i*4+(jL [e]).length)=Y;have hYl:Y.length=G*4-(i*4+4):=by rw [←hY,List.length_drop,hrl,he4]
    have hA:(jL (l.take i)++jL [e]++Y).take ((i+1)*4)=jL (l.take i)++jL [e]:=List.take_left' (by rw [List.length_append,ht4,he4];omega)
    rw [kQ _ _ _ (by simp only [List.length_append];omega),hA,hfin,←List.append_assoc (jL (l.take i)) (jL [e])]
    exact List.take_left' (by simp only [List.length_append];omega)
   ·have h5:=hal.size
    have h6:(w.alloc (.cells ROW tEn)).drew.heap.size=(w.alloc (.cells ROW tEn)).heap.size:=rfl;rw [s2.2.2.2];show _≤((w.alloc (.cells ROW tEn)).drew.setCells w.heap.size (i*4) (jL [e])).heap.size;rw [s1.2.2.2,h6];exact h5
   ·rw [q4 k (by omega)]
    show ((w.alloc (.cells ROW tEn)).drew.setCells w.heap.size (i*4) (jL [e])).heap[k]?=_;rw [q2 k (by omega)]
    exact hal.block k hk
 ·obtain rfl:i=l.length:=by omega
  obtain ⟨i0,zv,hi0,hz0,hzc,hzs,hzb⟩:=slEn.info;have hzo:vt Tryz.prog tEn=some [.int .i64 0,.int .i64 0,.int .i64 0,.int .i64 0]:=by kernel_rfl
  have hrep:Rep w true (.sl i0.size tEn (l.flatMap jf)) x (blk x++[]):=by rw [hzs];exact r1'
  obtain ⟨v',w',S',k1,k2,k3,k4,k5⟩:=jk7 (P:=Tryz.prog) (B:=B) (ty:=tEs) (t:=tEs) (ys:=[e].flatMap jf) (c:=vc) (m:=1) slEn.1 hi0 hzo (by omega) hrep (jog w true [e]) (by rw [hzs];rfl) (A:=some ⟨vb,0,none⟩) (fun h=>by cases h) (fun ad had j u hj=>by
   cases had;rw [Addr.add_lit,Nat.zero_add];exact hvs j u hj) (jaY [e]) (by simpa using hF.left) hB (by rw [hzs,jG jqk,jG jqk];simp [maxLen];omega) (by rw [hzs,hzb,jG jqk,jG jqk];simp;omega)
  have hend:jkP l l.length e=l++[e]:=by simp [jkP]
  rw [hzs,←List.flatMap_append] at k2
  have key:∀(A:Option Addr) (n c:Nat),x=.slice A n c→n=l.length→n≤c→c≤maxLen→(A=none→c=0)→(∀a,A=some a→∃b,a=⟨b,0,none⟩)→Calls Tryz.prog jyI #[x,.int .i64 l.length,.slice (some ⟨vb,0,none⟩) 1 vc] w fun e w1=>e=.returned v'∧w1=w':=fun A n c hx hn hnc hcm hA hA2=>by
   subst hx;subst hn;exact jyy A l.length c vb vc w v' w' hnc (by unfold maxLen at hcm;omega) hA hA2 k1
  have hC:Calls Tryz.prog jyI #[x,.int .i64 l.length,.slice (some ⟨vb,0,none⟩) 1 vc] w fun e w1=>e=.returned v'∧w1=w':=by
   rcases o1.2 with ⟨rfl,h0⟩|⟨b,c,cu,rfl,_,hbc,hc1,hc2,hc3,hc4⟩
   ·exact key none 0 0 rfl h0.symm (Nat.le_refl _) (Nat.zero_le _) (fun _=>rfl) (fun a h=>by cases h)
   ·exact key _ _ c rfl rfl hc1 hc2 (fun h=>by cases h) (fun a h=>by cases h;exact ⟨_,rfl⟩)
  refine hC.mono ?_;rintro en w1 ⟨rfl,rfl⟩;refine ⟨v',S',rfl,by rw [hend];exact k2,k3,k4,fun s hs=>?_⟩
  rcases k5 s hs with h|h|h
  ·exact .inl h
  ·simp at h
  ·exact .inr h
theorem jid (l:List En) (i:Nat) (e:En) (hi:i≤l.length) (hl:l.length≤4000000) {o:Nat→Ob} {g g2:Nat} {η η2:jq} (ho:o g=.loose (jm l) η) (ho2:o g2=.loose (jm [e]) η2) (hne:g2≠g):
 Turns Tryz.prog jyI [.c (.h g 0 [] (η [])),.c (.v (.int .i64 i)),.c (.h g2 0 [] (η2 []))] o (fun rt o'=>rt=.c (jm (jkP l i e))∧o'=fun k=>if k=g2 then .none else if k=g then .none else o k):=
 ⟨⟨_,Tryz.func290,by kernel_rfl,by kernel_rfl⟩,fun B w F xs hR hxs=>by
   obtain ⟨x,xs1,rfl,⟨rfl,_⟩,_,xs2,rfl,rfl,x2,xs3,rfl,⟨rfl,_⟩,rfl⟩:=hxs;have h1:=hR.ob g;have h2:=hR.ob g2;simp only at h1 h2;rw [ho] at h1;rw [ho2] at h2;obtain ⟨_,u1,r1,e1⟩:=h1;obtain ⟨_,u2,r2,e2⟩:=h2;have q1:η []=u1:=e1 [];have q2:η2 []=u2:=e2 [];rw [q1,q2];have hB:B≤w.heap.size:=Nat.le_trans hR.hB hR.below.size;have hF1:=hR.fr g;have hF2:=hR.fr g2;have hlt:∀k,∀b∈F k,b<w.heap.size:=fun k b hb=>(hR.ob k).lt b hb
   have hF:Fresh B (F g++F g2):=⟨List.nodup_append.2 ⟨hF1.1,hF2.1,fun a ha b hb hab=>hR.dj g g2 (Ne.symm hne) a ha (hab▸hb)⟩,fun b hb=>by
    rcases List.mem_append.1 hb with hb|hb
    ·exact hF1.2 b hb
    ·exact hF2.2 b hb⟩
   refine (jyx l i e hi hl r1 r2 hF hB).mono ?_;rintro en w' ⟨v,S,rfl,hrep,hfr,honly,hS⟩;have t1:=(hR.setO (g:=g) (ob:=.none) (S:=[]) rfl (Fresh.nil _) (by simp)).setO (g:=g2) (ob:=.none) (S:=[]) rfl (Fresh.nil _) (by simp)
   have t2:=t1.world' (honly.below (fun s hs=>hF1.2 s hs) hB) fun k b hb=>by
    split at hb
    ·simp at hb
    ·split at hb
     ·simp at hb
     ·rename_i hk
      exact honly.block b (hlt k b hb) fun h=>hR.dj k g hk b hb h
   refine ⟨v,.c (jm (jkP l i e)),_,S,_,rfl,t2,hrep,hfr,fun k b hb=>?_,rfl,rfl⟩
   split
   ·simp
   ·split
    ·simp
    ·rename_i hk
     intro hb';rcases hS b hb with h|h
     ·exact hR.dj k g hk b hb' h
     ·have:=hlt k b hb';omega⟩
end Go.Proofs.YtmnpailnelmpiaaGreat
