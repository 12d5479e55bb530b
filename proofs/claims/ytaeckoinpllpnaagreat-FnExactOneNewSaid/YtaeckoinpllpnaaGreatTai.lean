/- Part 9 of the proof of its last text: this session's own texts, shortened and joined by a program of its own (wip/pack.py). -/
import Derived.Test.YtaeckoinpllpnaaGreatTaa
import Derived.Test.YtaeckoinpllpnaaGreatTag
import Derived.Test.YtaeckoinpllpnaaGreatTae
import Derived.Test.YtaeckoinpllpnaaGreatTaf
set_option linter.unusedVariables false
set_option linter.unusedSimpArgs false
set_option maxHeartbeats 16000000
set_option maxRecDepth 100000
namespace Go.Proofs.YtaeckoinpllpnaaGreat
open Go.RowKit Go.Proofs.YtaeckoinpllpnaaGreatW.PrintWords Go.Proofs.YtaeckoinpllpnaaGreatW.PrintLast
theorem Zic (x:Pln) (cs:List Value) (w:World) (hP:allK w x kPln cs) (b:Int) (hn1:1≤x.nodes) (hn4:x.nodes≤4) (hdep:∀ (j:Nat) (y:Wy),x.ways[j]? = some y→inB y.depth 1 4=true) (hlc:x.cells.length≤8) (hlw:x.ways.length≤10) :
  Calls Tryz.prog 103 #[.agg cs.toArray,.int .i64 b] w fun e w'=>(∃ cs:List Value,e=.returned (.agg cs.toArray)∧Own kNod w' (fun k=>w.heap.size≤k) (Zbm x b false) cs)∧Below w.heap.size w w':=by
 obtain ⟨A1,c1,A2,c2,A3,c3,A4,c4,rfl,l1,r1,l2,r2,l3,r3,l4,r4⟩:=Zcs hP
 obtain ⟨n,hn⟩:∃ n:Nat,x.nodes=(n:Int):=⟨x.nodes.toNat,by omega⟩
 have hb0:=((Below.refl w.heap.size w).alloc nlr_ (.cells #[.int .i64 n,.int .i64 x.secret,.int .i64 x.fuel,.slice A1 x.cells.length c1,.slice A2 x.ways.length c2,.slice A3 x.slots.length c3,.slice A4 x.turns.length c4] 33)).alloc (by simp) (.cells #[.bool false,.int .i64 0,.int .i64 0,.slice none 0 0,.slice none 0 0,.slice none 0 0,.slice none 0 0,.slice none 0 0,.slice none 0 0,.slice none 0 0] 98)
 have q:=Zqi n ((w.alloc (.cells #[.int .i64 n,.int .i64 x.secret,.int .i64 x.fuel,.slice A1 x.cells.length c1,.slice A2 x.ways.length c2,.slice A3 x.slots.length c3,.slice A4 x.turns.length c4] 33)).alloc (.cells #[.bool false,.int .i64 0,.int .i64 0,.slice none 0 0,.slice none 0 0,.slice none 0 0,.slice none 0 0,.slice none 0 0,.slice none 0 0,.slice none 0 0] 98)) (by omega) (by omega)
 rw [hn]
 go_enter Tryz.func103,Tryz.ntmps103
 go_upto_region 1 with (fail)
 go_upto_region 2 with (go_at_call 144;with_reducible refine q.mono ?_;rintro e w1 ⟨⟨u6,u7,f0,rfl,hh1,hh2⟩,hb1⟩;obtain ⟨B6,d6,e6,-,-⟩:=Zbl hh1;obtain ⟨B7,d7,e7,-,-⟩:=Zbl hh2;rw [List.length_replicate] at e6 e7;subst e6;subst e7)
 have Np_1:=Zab (Zal (Zas w (.cells #[.int .i64 n,.int .i64 x.secret,.int .i64 x.fuel,.slice A1 x.cells.length c1,.slice A2 x.ways.length c2,.slice A3 x.slots.length c3,.slice A4 x.turns.length c4] 33)) (.cells #[.bool false,.int .i64 0,.int .i64 0,.slice none 0 0,.slice none 0 0,.slice none 0 0,.slice none 0 0,.slice none 0 0,.slice none 0 0,.slice none 0 0] 98)) hb1
 have N0_1:=Zab (Zas (w.alloc (.cells #[.int .i64 n,.int .i64 x.secret,.int .i64 x.fuel,.slice A1 x.cells.length c1,.slice A2 x.ways.length c2,.slice A3 x.slots.length c3,.slice A4 x.turns.length c4] 33)) (.cells #[.bool false,.int .i64 0,.int .i64 0,.slice none 0 0,.slice none 0 0,.slice none 0 0,.slice none 0 0,.slice none 0 0,.slice none 0 0,.slice none 0 0] 98)) hb1
 have hs1:w.heap.size+1+1≤w1.heap.size:=by have:=hb1.size;simpa using this
 have HB1:=hb0.trans (hb1.mono (by simp;omega))
 change Code.wp _ _ _ _ (w1.alloc (.cells #[.bool false,.int .i64 b,.int .i64 0,.slice none 0 0,.slice none 0 0,.slice none 0 0,.slice none 0 0,.slice none 0 0,.slice B6 n d6,.slice B7 n d7] 98))
 have HB:=HB1.alloc (by omega) (.cells #[.bool false,.int .i64 b,.int .i64 0,.slice none 0 0,.slice none 0 0,.slice none 0 0,.slice none 0 0,.slice none 0 0,.slice B6 n d6,.slice B7 n d7] 98)
 have Ng:=Zas w1 (.cells #[.bool false,.int .i64 b,.int .i64 0,.slice none 0 0,.slice none 0 0,.slice none 0 0,.slice none 0 0,.slice none 0 0,.slice B6 n d6,.slice B7 n d7] 98)
 have N0:=Zal N0_1 (.cells #[.bool false,.int .i64 b,.int .i64 0,.slice none 0 0,.slice none 0 0,.slice none 0 0,.slice none 0 0,.slice none 0 0,.slice B6 n d6,.slice B7 n d7] 98)
 have Np:=Zal Np_1 (.cells #[.bool false,.int .i64 b,.int .i64 0,.slice none 0 0,.slice none 0 0,.slice none 0 0,.slice none 0 0,.slice none 0 0,.slice B6 n d6,.slice B7 n d7] 98)
 have hgl:=Zao Ng
 obtain ⟨r,hr0⟩:∃ r,(w.alloc (.cells #[.int .i64 n,.int .i64 x.secret,.int .i64 x.fuel,.slice A1 x.cells.length c1,.slice A2 x.ways.length c2,.slice A3 x.slots.length c3,.slice A4 x.turns.length c4] 33)).heap.size=r:=⟨_,rfl⟩
 have hr1:r=w.heap.size+1:=by rw [← hr0];simp
 rw [hr0,hr1] at N0 N0_1
 clear hr0 hr1
 obtain ⟨g,hg0⟩:∃ g,w1.heap.size=g:=⟨_,rfl⟩
 rw [hg0] at Ng hgl ⊢
 have hs2:w.heap.size+2≤g:=by omega
 have H0:NodR (w1.alloc (.cells #[.bool false,.int .i64 b,.int .i64 0,.slice none 0 0,.slice none 0 0,.slice none 0 0,.slice none 0 0,.slice none 0 0,.slice B6 n d6,.slice B7 n d7] 98)) (fun k=>w.heap.size≤k∧k≠w.heap.size∧k≠w.heap.size+1∧k≠g) ⟨false,b,0,(x.cells.take (0)).map (fun _=>Zbt),(x.ways.take (0)).map (fun y:Wy=>Zbd y.depth),(x.ways.take (0)).map (fun y:Wy=>Zbd y.depth),(x.ways.take (0)).map (fun _=>Zdr),(x.ways.take (0)).map (fun _=>Zez),List.replicate n 0,List.replicate n 0⟩ (fun k=>f0 k+7) (.slice none 0 0) (.slice none 0 0) (.slice none 0 0) (.slice none 0 0) (.slice none 0 0) (.slice B6 n d6) (.slice B7 n d7) :=
  ⟨Zbq _ _ _ _,Zbq _ _ _ _,Zbq _ _ _ _,Zbq _ _ _ _,Zbq _ _ _ _,
   Zae (Zaj (Zaf hh1) ((brf_).alloc nlr_ _)) (fun k hk=>by have:=hk.1.1;simp at this;(try dsimp only at hk ⊢);omega),
   Zae (Zaj (Zaf hh2) ((brf_).alloc nlr_ _)) (fun k hk=>by have:=hk.1.1;simp at this;(try dsimp only at hk ⊢);omega)⟩
 generalize w1.alloc (.cells #[.bool false,.int .i64 b,.int .i64 0,.slice none 0 0,.slice none 0 0,.slice none 0 0,.slice none 0 0,.slice none 0 0,.slice B6 n d6,.slice B7 n d7] 98)=W0 at *
 clear hh1 hh2 hb1 N0_1 Np_1 HB1 q hb0
 go_wp2
 go_loopw [6] (fun i wr=>∃ (k:Nat) (u1:Value) (f:Nat→Nat),k≤x.cells.length∧i=.int .i64 k∧wr.heap[g]? = some (.cells #[.bool false,.int .i64 b,.int .i64 0,u1,.slice none 0 0,.slice none 0 0,.slice none 0 0,.slice none 0 0,.slice B6 n d6,.slice B7 n d7] 98 (0,0))∧wr.heap[w.heap.size+1]? = some (.cells #[.bool false,.int .i64 0,.int .i64 0,.slice none 0 0,.slice none 0 0,.slice none 0 0,.slice none 0 0,.slice none 0 0,.slice none 0 0,.slice none 0 0] 98 (0,0))∧wr.heap[w.heap.size]? = some (.cells #[.int .i64 n,.int .i64 x.secret,.int .i64 x.fuel,.slice A1 x.cells.length c1,.slice A2 x.ways.length c2,.slice A3 x.slots.length c3,.slice A4 x.turns.length c4] 33 (0,0))∧NodR wr (fun k=>w.heap.size≤k∧k≠w.heap.size∧k≠w.heap.size+1∧k≠g) ⟨false,b,0,(x.cells.take (k)).map (fun _=>Zbt),(x.ways.take (0)).map (fun y:Wy=>Zbd y.depth),(x.ways.take (0)).map (fun y:Wy=>Zbd y.depth),(x.ways.take (0)).map (fun _=>Zdr),(x.ways.take (0)).map (fun _=>Zez),List.replicate n 0,List.replicate n 0⟩ f (u1) (.slice none 0 0) (.slice none 0 0) (.slice none 0 0) (.slice none 0 0) (.slice B6 n d6) (.slice B7 n d7)∧Below w.heap.size w wr) (fun i _=>x.cells.length-(intOf i).toNat)
 case atStart=>exact ⟨0,_,_,Nat.zero_le _,rfl,Ng,N0,Np,H0,HB⟩
 case round =>
  clear Ng N0 H0 HB hgl Np
  obtain ⟨k,u1,f,hk,rfl,Ng,N0,Np,HN,HB⟩:=hrel
  have hgl:=Zao Ng
  obtain ⟨-,-,-,p3⟩:=cellsP4 Np
  by_cases hlt:k<x.cells.length
  ·go_wp2_with (fail)
   refine Zcf 7 u1.ownBlock [6] (by kernel_rfl) rfl rfl ?_
   intro Wd hd hs
   have N0_d:=Zab N0 hd
   have Ng_d:=Zab Ng hd
   have Np_d:=Zab Np hd
   have HNd:=HN.step (w1:=Wd) (fun k _ hl=>hd.block k hl)
   have hgu:some g≠u1.ownBlock:=fun e=>by have:=((Zca HN.r1) _ e.symm).1;(try dsimp only at this);omega
   have HB_d:=HB.trans (hd.mono HB.size)
   refine head2 7 0 20 21 5 35 98 3 3 g (u:=u1) ⟨rfl,rfl⟩ (by kernel_rfl) ⟨rfl,rfl,rfl⟩ ⟨rfl,rfl,rfl⟩ rfl (show 20<70 by decide) (fun w1=>by go_simp) (fun w1 h=>by go_simp) (fun w1 hk=>hk.cell Ng_d hgu rfl) (Zbc.refl _ _) (fun _ _ _ d _ h=>by cases d <;> exact h) ?_
   refine Zbb (by simp only [Act.put,pkA,pkB,pkC];rfl) ?_
   refine Zdt 7 2 22 (fun v w1=>∃ cs:List Value,v=.agg cs.toArray∧Own Zby w1 (fun k=>Wd.heap.size≤k) Zbt cs) rfl (by decide) (by kernel_rfl) rfl rfl rfl Tryz.func145 (by kernel_rfl) rfl #[] (by (try simp only [List.map_toArray,List.map_cons,List.map_nil]);first | done | rfl) ((Zhe Wd).mono (fun e w9 h=>⟨match h.1 with | ⟨cs,he,ho⟩=>⟨_,he,cs,rfl,ho⟩,h.2⟩)) (Zbc.refl _ _) nlr_ ?_
   rintro v w1 ⟨cs1,rfl,hp⟩ hb1 hk1
   obtain ⟨y1,y2,y3,ff,rfl,-,-,-⟩:=Zfz hp
   refine Zbb (by simp only [Act.put,pkA,pkB,pkC];rfl) ?_
   have HB_1:=HB_d.trans (hb1.mono HB_d.size)
   have hsz1:=hb1.size
   refine Zcl Zby (w0:=w) 7 3 21 22 23 24 25 5 35 103 98 3 3 70 g (u:=u1) (xs:=(x.cells.take k).map (fun _=>Zbt)) (fun k=>(fun k=>w.heap.size≤k∧k≠w.heap.size∧k≠w.heap.size+1∧k≠g) k∧((k<Wd.heap.size∧f k=3)∨Wd.heap.size≤k)) (fun k=>Wd.heap.size≤k) ⟨rfl,rfl,rfl,rfl⟩ (by kernel_rfl) ⟨rfl,rfl,rfl⟩ ⟨rfl,rfl,rfl⟩ ⟨rfl,rfl,rfl⟩ ⟨rfl,rfl,rfl⟩ rfl (by decide) rfl rfl (fun w1=>by go_simp <;> (constructor <;> rfl)) (fun w1=>by go_simp) Tryz.underlying35 Zsw rfl (by decide) (by omega) (fun _=>by go_simp) hp ?aO ?aT ?aS ?aF HB_1 ?aL hk1 hb1.size Ng_d (show 3<10 by decide) hgu (fun _ _ _ d _ h=>by cases d <;> exact h) ?_
   (case aO=>exact Zae (Zaj (Zaf HNd.r1) hb1) (fun k hk=>by (try dsimp only at hk ⊢);omega))
   (case aT=>exact fun k hk=>by (try dsimp only at hk ⊢);omega)
   (case aS=>exact fun k hk=>by (try dsimp only at hk ⊢);omega)
   (case aF=>exact fun k hk=>by (try dsimp only at hk ⊢);omega)
   (case aL=>simp;omega)
   rintro B L9 d w2 vA vB-hR HB2 hgr hk2 -
   have HN_n:=(HNd.app_cells hb1 hgr hR).step (w1:=w2.setCell ⟨g,3,none⟩ (.slice B L9 d)) (fun b_ hk _=>Below.heap_setCell w2 ⟨g,3,none⟩ (.slice B L9 d) b_ (by (try dsimp only at hk ⊢);omega))
   have HB_n:=Zak (j:=3) (v:=.slice B L9 d) HB2 (show w.heap.size≤g by omega)
   have Ng_n:=Zau ((hk2 g (Zao Ng_d) hgu).trans Ng_d) 3 (.slice B L9 d)
   have N0_n:=Zav (p:=⟨g,3,none⟩) ((hk2 _ (Zao N0_d) (fun e=>by have:=((Zca HN.r1) _ e.symm).1;(try dsimp only at this);omega)).trans N0_d) (show (w.heap.size+1)≠g by omega) (.slice B L9 d)
   have Np_n:=Zav (p:=⟨g,3,none⟩) ((hk2 _ (Zao Np_d) (fun e=>by have:=((Zca HN.r1) _ e.symm).1;(try dsimp only at this);omega)).trans Np_d) (show w.heap.size≠g by omega) (.slice B L9 d)
   simp only [Act.put,pkA,pkB,pkC]
   clear HN HNd HB Ng N0 Np Ng_d N0_d Np_d hd hs hb1 hk1 hp HB_d HB_1 hk2 hgr p3
   go_wp2
   refine ⟨⟨k+1,_,_,by omega,rfl,Ng_n,N0_n,Np_n,by rw [Zjt Zbt x.cells k hlt] at HN_n;exact HN_n,HB_n⟩, ?_⟩
   simp [intOf]
   omega
  ·have e:k=x.cells.length:=by omega
   subst e
   rw [List.take_length] at HN
   go_wp2
   clear p3
   go_loopw [7] (fun i wr=>∃ (k:Nat) (u1 u2 u3 u4 u5:Value) (f:Nat→Nat),k≤x.ways.length∧i=.int .i64 k∧wr.heap[g]? = some (.cells #[.bool false,.int .i64 b,.int .i64 0,u1,u2,u3,u4,u5,.slice B6 n d6,.slice B7 n d7] 98 (0,0))∧wr.heap[w.heap.size+1]? = some (.cells #[.bool false,.int .i64 0,.int .i64 0,.slice none 0 0,.slice none 0 0,.slice none 0 0,.slice none 0 0,.slice none 0 0,.slice none 0 0,.slice none 0 0] 98 (0,0))∧wr.heap[w.heap.size]? = some (.cells #[.int .i64 n,.int .i64 x.secret,.int .i64 x.fuel,.slice A1 x.cells.length c1,.slice A2 x.ways.length c2,.slice A3 x.slots.length c3,.slice A4 x.turns.length c4] 33 (0,0))∧NodR wr (fun k=>w.heap.size≤k∧k≠w.heap.size∧k≠w.heap.size+1∧k≠g) ⟨false,b,0,x.cells.map (fun _=>Zbt),(x.ways.take (k)).map (fun y:Wy=>Zbd y.depth),(x.ways.take (k)).map (fun y:Wy=>Zbd y.depth),(x.ways.take (k)).map (fun _=>Zdr),(x.ways.take (k)).map (fun _=>Zez),List.replicate n 0,List.replicate n 0⟩ f (u1) (u2) (u3) (u4) (u5) (.slice B6 n d6) (.slice B7 n d7)∧Below w.heap.size w wr) (fun i _=>x.ways.length-(intOf i).toNat)
   case atStart=>exact ⟨0,_,_,_,_,_,_,Nat.zero_le _,rfl,Ng,N0,Np,HN,HB⟩
   case round =>
    clear Ng N0 Np HN HB hgl hlt hk
    obtain ⟨k,u1,u2,u3,u4,u5,f,hk,rfl,Ng,N0,Np,HN,HB⟩:=hrel
    have hgl:=Zao Ng
    obtain ⟨-,-,-,-,p4⟩:=cellsP5 Np
    by_cases hlt:k<x.ways.length
    ·obtain ⟨y,hy⟩:=Zar x.ways hlt
     have hdy:=hdep k y hy
     obtain ⟨ad,B1,d1,rfl,y0,y1,y2,y3,y4,m1,s1⟩:=Zhc r2 hy
     have hyb:=World.block_lt_of_cell? _ _ y2
     dsimp only at hyb
     clear y0 y1 y3 y4 s1 m1
     go_wp2_with (fail)
     clear p4
     generalize wr=W1 at *
     refine Zcf 13 u2.ownBlock [12] (by kernel_rfl) rfl rfl ?_
     intro Wd hd hs
     have N0_d:=Zab N0 hd
     have Ng_d:=Zab Ng hd
     have Np_d:=Zab Np hd
     have HNd:=HN.step (w1:=Wd) (fun k _ hl=>hd.block k hl)
     have hgu:some g≠u2.ownBlock:=fun e=>by have:=((Zca HN.r2) _ e.symm).1;(try dsimp only at this);omega
     have HB_d:=HB.trans (hd.mono HB.size)
     refine head2 13 0 33 34 5 36 98 4 4 g (u:=u2) ⟨rfl,rfl⟩ (by kernel_rfl) ⟨rfl,rfl,rfl⟩ ⟨rfl,rfl,rfl⟩ rfl (show 33<70 by decide) (fun w1=>by go_simp) (fun w1 h=>by go_simp) (fun w1 hk=>hk.cell Ng_d hgu rfl) (Zbc.refl _ _) (fun _ _ _ d _ h=>by cases d <;> exact h) ?_
     refine Zbb (by simp only [Act.put,pkA,pkB,pkC];rfl) ?_
     refine head2 13 2 35 36 2 30 33 4 4 w.heap.size (u:=.slice (some ad) x.ways.length c2) ⟨rfl,rfl⟩ (by kernel_rfl) ⟨rfl,rfl,rfl⟩ ⟨rfl,rfl,rfl⟩ rfl (show 35<70 by decide) (fun w1=>by go_simp) (fun w1 h=>by go_simp) (fun w1 hk=>hk.cell Np_d (fun e=>by have:=((Zca HN.r2) _ e.symm).1;(try dsimp only at this);omega) rfl) (Zbc.refl _ _) (fun _ _ _ d _ h=>by cases d <;> exact h) ?_
     refine Zbb (by simp only [Act.put,pkA,pkB,pkC];rfl) ?_
     refine idx4 13 4 37 38 39 40 36 7 30 112 3 2 70 (vs:=.slice (some ad) x.ways.length c2) (vi:=.int .i64 k) (v:=.int .i64 y.depth) (A1:=ad.add (k*5)) (A2:=⟨(ad.add (k*5)).block,(ad.add (k*5)).off+2,none⟩) ⟨rfl,rfl,rfl,rfl⟩ (by kernel_rfl) ⟨rfl,rfl,rfl⟩ ⟨rfl,rfl,rfl⟩ ⟨rfl,rfl,rfl⟩ ⟨rfl,rfl,rfl⟩ rfl rfl rfl (by decide) (fun w1=>by go_simp) (fun w1=>by go_simp) (fun w1 hk=>by have h9:=Zbc.at_ hk (Zaa HB_d y2) (fun e=>by have:=((Zca HN.r2) _ e.symm).1;(try dsimp only at this hyb);omega);go_simp) (Zbc.refl _ _) (fun _ _ _ d _ h=>by cases d <;> exact h) ?_
     refine Zbb (by simp only [Act.put,pkA,pkB,pkC];rfl) ?_
     refine Zdt 13 8 41 (fun v w1=>v=.agg #[.int .i64 y.depth,.slice none 0 0]) rfl (by decide) (by kernel_rfl) rfl rfl rfl Tryz.func146 (by kernel_rfl) rfl #[.int .i64 y.depth] (by (try simp only [List.map_toArray,List.map_cons,List.map_nil]);first | done | rfl) ((Zhf y.depth Wd).mono (fun e w9 h=>⟨⟨_,h.1,by rw [hdy];rfl⟩,h.2⟩)) (Zbc.refl _ _) nlr_ ?_
     rintro v w1 rfl hb1 hk1
     have hp:Own kBox w1 (fun k=>Wd.heap.size≤k) (Zbd y.depth) [.int .i64 y.depth,.slice none 0 0]:=Zsx (fun _=>0) (Zbq _ _ _ _)
     refine Zbb (by simp only [Act.put,pkA,pkB,pkC];rfl) ?_
     have HB_1:=HB_d.trans (hb1.mono HB_d.size)
     have hsz1:=hb1.size
     refine Zcl kBox (w0:=w) 13 9 34 41 42 43 44 5 36 109 98 4 4 70 g (u:=u2) (xs:=(x.ways.take (k)).map (fun y:Wy=>Zbd y.depth)) (fun k=>(fun k=>w.heap.size≤k∧k≠w.heap.size∧k≠w.heap.size+1∧k≠g) k∧((k<Wd.heap.size∧f k=4)∨Wd.heap.size≤k)) (fun k=>Wd.heap.size≤k) ⟨rfl,rfl,rfl,rfl⟩ (by kernel_rfl) ⟨rfl,rfl,rfl⟩ ⟨rfl,rfl,rfl⟩ ⟨rfl,rfl,rfl⟩ ⟨rfl,rfl,rfl⟩ rfl (by decide) rfl rfl (fun w1=>by go_simp <;> (constructor <;> rfl)) (fun w1=>by go_simp) Tryz.underlying36 iBox rfl (by decide) (by omega) (fun _=>by go_simp) hp ?aO ?aT ?aS ?aF HB_1 ?aL hk1 hb1.size Ng_d (show 4<10 by decide) hgu (fun _ _ _ d _ h=>by cases d <;> exact h) ?_
     (case aO=>exact Zae (Zaj (Zaf HNd.r2) hb1) (fun k hk=>by (try dsimp only at hk ⊢);omega))
     (case aT=>exact fun k hk=>by (try dsimp only at hk ⊢);omega)
     (case aS=>exact fun k hk=>by (try dsimp only at hk ⊢);omega)
     (case aF=>exact fun k hk=>by (try dsimp only at hk ⊢);omega)
     (case aL=>simp;omega)
     rintro B L9 d w2 vA vB-hR HB2 hgr hk2 -
     have HN_n:=(HNd.app_out hb1 hgr hR).step (w1:=w2.setCell ⟨g,4,none⟩ (.slice B L9 d)) (fun b_ hk _=>Below.heap_setCell w2 ⟨g,4,none⟩ (.slice B L9 d) b_ (by (try dsimp only at hk ⊢);omega))
     have HB_n:=Zak (j:=4) (v:=.slice B L9 d) HB2 (show w.heap.size≤g by omega)
     have Ng_n:=Zau ((hk2 g (Zao Ng_d) hgu).trans Ng_d) 4 (.slice B L9 d)
     have N0_n:=Zav (p:=⟨g,4,none⟩) ((hk2 _ (Zao N0_d) (fun e=>by have:=((Zca HN.r2) _ e.symm).1;(try dsimp only at this);omega)).trans N0_d) (show (w.heap.size+1)≠g by omega) (.slice B L9 d)
     have Np_n:=Zav (p:=⟨g,4,none⟩) ((hk2 _ (Zao Np_d) (fun e=>by have:=((Zca HN.r2) _ e.symm).1;(try dsimp only at this);omega)).trans Np_d) (show w.heap.size≠g by omega) (.slice B L9 d)
     simp only [Act.put,pkA,pkB,pkC]
     rw [Zpv (fun y:Wy=>Zbd y.depth) hy] at HN_n
     clear HN HNd HB Ng N0 Np
     have HN:NodR (w2.setCell ⟨g,4,none⟩ (.slice B L9 d)) (fun k=>w.heap.size≤k∧k≠w.heap.size∧k≠w.heap.size+1∧k≠g) ⟨false,b,0,x.cells.map (fun _=>Zbt),(x.ways.take (k+1)).map (fun y:Wy=>Zbd y.depth),(x.ways.take (k)).map (fun y:Wy=>Zbd y.depth),(x.ways.take (k)).map (fun _=>Zdr),(x.ways.take (k)).map (fun _=>Zez),List.replicate n 0,List.replicate n 0⟩ (lab Wd.heap.size f 4) (u1) (.slice B L9 d) (u3) (u4) (u5) (.slice B6 n d6) (.slice B7 n d7):=HN_n
     have HB:=HB_n
     have N0:=N0_n
     have Np:=Np_n
     have Ng:(w2.setCell ⟨g,4,none⟩ (.slice B L9 d)).heap[g]? = some (.cells #[.bool false,.int .i64 b,.int .i64 0,u1,.slice B L9 d,u3,u4,u5,.slice B6 n d6,.slice B7 n d7] 98 (0,0)):=Ng_n
     clear HN_n HB_n N0_n Np_n Ng_n Ng_d N0_d Np_d hb1 hk1 hp HB_d HB_1 hk2 hgr hR HB2 hgu hsz1
     generalize w2.setCell ⟨g,4,none⟩ (.slice B L9 d)=W2 at *
     generalize Value.slice B L9 d=v2 at *
     generalize lab Wd.heap.size f 4=f_ at *
     clear hd hs hgl
     have hgl:=Zao Ng
     go_wp2_with (fail)
     refine Zcf 13 u3.ownBlock [12] (by kernel_rfl) rfl rfl ?_
     intro Wd hd hs
     have N0_d:=Zab N0 hd
     have Ng_d:=Zab Ng hd
     have Np_d:=Zab Np hd
     have HNd:=HN.step (w1:=Wd) (fun k _ hl=>hd.block k hl)
     have hgu:some g≠u3.ownBlock:=fun e=>by have:=((Zca HN.r3) _ e.symm).1;(try dsimp only at this);omega
     have HB_d:=HB.trans (hd.mono HB.size)
     refine head2 13 0 45 46 5 36 98 5 5 g (u:=u3) ⟨rfl,rfl⟩ (by kernel_rfl) ⟨rfl,rfl,rfl⟩ ⟨rfl,rfl,rfl⟩ rfl (show 45<70 by decide) (fun w1=>by go_simp) (fun w1 h=>by go_simp) (fun w1 hk=>hk.cell Ng_d hgu rfl) (Zbc.refl _ _) (fun _ _ _ d _ h=>by cases d <;> exact h) ?_
     refine Zbb (by simp only [Act.put,pkA,pkB,pkC];rfl) ?_
     refine head2 13 2 47 48 2 30 33 4 4 w.heap.size (u:=.slice (some ad) x.ways.length c2) ⟨rfl,rfl⟩ (by kernel_rfl) ⟨rfl,rfl,rfl⟩ ⟨rfl,rfl,rfl⟩ rfl (show 47<70 by decide) (fun w1=>by go_simp) (fun w1 h=>by go_simp) (fun w1 hk=>hk.cell Np_d (fun e=>by have:=((Zca HN.r3) _ e.symm).1;(try dsimp only at this);omega) rfl) (Zbc.refl _ _) (fun _ _ _ d _ h=>by cases d <;> exact h) ?_
     refine Zbb (by simp only [Act.put,pkA,pkB,pkC];rfl) ?_
     refine idx4 13 4 49 50 51 52 48 7 30 112 3 2 70 (vs:=.slice (some ad) x.ways.length c2) (vi:=.int .i64 k) (v:=.int .i64 y.depth) (A1:=ad.add (k*5)) (A2:=⟨(ad.add (k*5)).block,(ad.add (k*5)).off+2,none⟩) ⟨rfl,rfl,rfl,rfl⟩ (by kernel_rfl) ⟨rfl,rfl,rfl⟩ ⟨rfl,rfl,rfl⟩ ⟨rfl,rfl,rfl⟩ ⟨rfl,rfl,rfl⟩ rfl rfl rfl (by decide) (fun w1=>by go_simp) (fun w1=>by go_simp) (fun w1 hk=>by have h9:=Zbc.at_ hk (Zaa HB_d y2) (fun e=>by have:=((Zca HN.r3) _ e.symm).1;(try dsimp only at this hyb);omega);go_simp) (Zbc.refl _ _) (fun _ _ _ d _ h=>by cases d <;> exact h) ?_
     refine Zbb (by simp only [Act.put,pkA,pkB,pkC];rfl) ?_
     refine Zdt 13 8 53 (fun v w1=>v=.agg #[.int .i64 y.depth,.slice none 0 0]) rfl (by decide) (by kernel_rfl) rfl rfl rfl Tryz.func146 (by kernel_rfl) rfl #[.int .i64 y.depth] (by (try simp only [List.map_toArray,List.map_cons,List.map_nil]);first | done | rfl) ((Zhf y.depth Wd).mono (fun e w9 h=>⟨⟨_,h.1,by rw [hdy];rfl⟩,h.2⟩)) (Zbc.refl _ _) nlr_ ?_
     rintro v w1 rfl hb1 hk1
     have hp:Own kBox w1 (fun k=>Wd.heap.size≤k) (Zbd y.depth) [.int .i64 y.depth,.slice none 0 0]:=Zsx (fun _=>0) (Zbq _ _ _ _)
     refine Zbb (by simp only [Act.put,pkA,pkB,pkC];rfl) ?_
     have HB_1:=HB_d.trans (hb1.mono HB_d.size)
     have hsz1:=hb1.size
     refine Zcl kBox (w0:=w) 13 9 46 53 54 55 56 5 36 109 98 5 5 70 g (u:=u3) (xs:=(x.ways.take (k)).map (fun y:Wy=>Zbd y.depth)) (fun k=>(fun k=>w.heap.size≤k∧k≠w.heap.size∧k≠w.heap.size+1∧k≠g) k∧((k<Wd.heap.size∧f_ k=5)∨Wd.heap.size≤k)) (fun k=>Wd.heap.size≤k) ⟨rfl,rfl,rfl,rfl⟩ (by kernel_rfl) ⟨rfl,rfl,rfl⟩ ⟨rfl,rfl,rfl⟩ ⟨rfl,rfl,rfl⟩ ⟨rfl,rfl,rfl⟩ rfl (by decide) rfl rfl (fun w1=>by go_simp <;> (constructor <;> rfl)) (fun w1=>by go_simp) Tryz.underlying36 iBox rfl (by decide) (by omega) (fun _=>by go_simp) hp ?aO ?aT ?aS ?aF HB_1 ?aL hk1 hb1.size Ng_d (show 5<10 by decide) hgu (fun _ _ _ d _ h=>by cases d <;> exact h) ?_
     (case aO=>exact Zae (Zaj (Zaf HNd.r3) hb1) (fun k hk=>by (try dsimp only at hk ⊢);omega))
     (case aT=>exact fun k hk=>by (try dsimp only at hk ⊢);omega)
     (case aS=>exact fun k hk=>by (try dsimp only at hk ⊢);omega)
     (case aF=>exact fun k hk=>by (try dsimp only at hk ⊢);omega)
     (case aL=>simp;omega)
     rintro B L9 d w2 vA vB-hR HB2 hgr hk2 -
     have HN_n:=(HNd.app_inn hb1 hgr hR).step (w1:=w2.setCell ⟨g,5,none⟩ (.slice B L9 d)) (fun b_ hk _=>Below.heap_setCell w2 ⟨g,5,none⟩ (.slice B L9 d) b_ (by (try dsimp only at hk ⊢);omega))
     have HB_n:=Zak (j:=5) (v:=.slice B L9 d) HB2 (show w.heap.size≤g by omega)
     have Ng_n:=Zau ((hk2 g (Zao Ng_d) hgu).trans Ng_d) 5 (.slice B L9 d)
     have N0_n:=Zav (p:=⟨g,5,none⟩) ((hk2 _ (Zao N0_d) (fun e=>by have:=((Zca HN.r3) _ e.symm).1;(try dsimp only at this);omega)).trans N0_d) (show (w.heap.size+1)≠g by omega) (.slice B L9 d)
     have Np_n:=Zav (p:=⟨g,5,none⟩) ((hk2 _ (Zao Np_d) (fun e=>by have:=((Zca HN.r3) _ e.symm).1;(try dsimp only at this);omega)).trans Np_d) (show w.heap.size≠g by omega) (.slice B L9 d)
     simp only [Act.put,pkA,pkB,pkC]
     rw [Zpv (fun y:Wy=>Zbd y.depth) hy] at HN_n
     clear HN HNd HB Ng N0 Np
     have HN:NodR (w2.setCell ⟨g,5,none⟩ (.slice B L9 d)) (fun k=>w.heap.size≤k∧k≠w.heap.size∧k≠w.heap.size+1∧k≠g) ⟨false,b,0,x.cells.map (fun _=>Zbt),(x.ways.take (k+1)).map (fun y:Wy=>Zbd y.depth),(x.ways.take (k+1)).map (fun y:Wy=>Zbd y.depth),(x.ways.take (k)).map (fun _=>Zdr),(x.ways.take (k)).map (fun _=>Zez),List.replicate n 0,List.replicate n 0⟩ (lab Wd.heap.size f_ 5) (u1) (v2) (.slice B L9 d) (u4) (u5) (.slice B6 n d6) (.slice B7 n d7):=HN_n
     have HB:=HB_n
     have N0:=N0_n
     have Np:=Np_n
     have Ng:(w2.setCell ⟨g,5,none⟩ (.slice B L9 d)).heap[g]? = some (.cells #[.bool false,.int .i64 b,.int .i64 0,u1,v2,.slice B L9 d,u4,u5,.slice B6 n d6,.slice B7 n d7] 98 (0,0)):=Ng_n
     clear HN_n HB_n N0_n Np_n Ng_n Ng_d N0_d Np_d hb1 hk1 hp HB_d HB_1 hk2 hgr hR HB2 hgu hsz1
     generalize w2.setCell ⟨g,5,none⟩ (.slice B L9 d)=W3 at *
     generalize Value.slice B L9 d=v3 at *
     generalize lab Wd.heap.size f_ 5=f__ at *
     clear hd hs hgl
     have hgl:=Zao Ng
     go_wp2_with (fail)
     refine Zcf 7 u4.ownBlock [6] (by kernel_rfl) rfl rfl ?_
     intro Wd hd hs
     have N0_d:=Zab N0 hd
     have Ng_d:=Zab Ng hd
     have Np_d:=Zab Np hd
     have HNd:=HN.step (w1:=Wd) (fun k _ hl=>hd.block k hl)
     have hgu:some g≠u4.ownBlock:=fun e=>by have:=((Zca HN.r4) _ e.symm).1;(try dsimp only at this);omega
     have HB_d:=HB.trans (hd.mono HB.size)
     refine head2 7 0 57 58 5 93 98 6 6 g (u:=u4) ⟨rfl,rfl⟩ (by kernel_rfl) ⟨rfl,rfl,rfl⟩ ⟨rfl,rfl,rfl⟩ rfl (show 57<70 by decide) (fun w1=>by go_simp) (fun w1 h=>by go_simp) (fun w1 hk=>hk.cell Ng_d hgu rfl) (Zbc.refl _ _) (fun _ _ _ d _ h=>by cases d <;> exact h) ?_
     refine Zbb (by simp only [Act.put,pkA,pkB,pkC];rfl) ?_
     refine Zdt 7 2 59 (fun v w1=>v=.agg #[.int .i64 1,.int .i64 0,.int .i64 0,.int .i64 0]) rfl (by decide) (by kernel_rfl) rfl rfl rfl Tryz.func143 (by kernel_rfl) rfl #[.int .i64 1] (by (try simp only [List.map_toArray,List.map_cons,List.map_nil]);first | done | rfl) ((Zgo 1 Wd).mono (fun e w9 h=>⟨⟨_,h.1,rfl⟩,h.2⟩)) (Zbc.refl _ _) nlr_ ?_
     rintro v w1 rfl hb1 hk1
     have hp:=Zvx Zdr w1 (fun k=>Wd.heap.size≤k)
     refine Zbb (by simp only [Act.put,pkA,pkB,pkC];rfl) ?_
     have HB_1:=HB_d.trans (hb1.mono HB_d.size)
     have hsz1:=hb1.size
     refine Zcl Zhm (w0:=w) 7 3 58 59 60 61 62 5 93 167 98 6 6 70 g (u:=u4) (xs:=(x.ways.take (k)).map (fun _=>Zdr)) (fun k=>(fun k=>w.heap.size≤k∧k≠w.heap.size∧k≠w.heap.size+1∧k≠g) k∧((k<Wd.heap.size∧f__ k=6)∨Wd.heap.size≤k)) (fun k=>Wd.heap.size≤k) ⟨rfl,rfl,rfl,rfl⟩ (by kernel_rfl) ⟨rfl,rfl,rfl⟩ ⟨rfl,rfl,rfl⟩ ⟨rfl,rfl,rfl⟩ ⟨rfl,rfl,rfl⟩ rfl (by decide) rfl rfl (fun w1=>by go_simp <;> (constructor <;> rfl)) (fun w1=>by go_simp) Tryz.underlying93 Zyn rfl (by decide) (by omega) (fun _=>by go_simp) hp ?aO ?aT ?aS ?aF HB_1 ?aL hk1 hb1.size Ng_d (show 6<10 by decide) hgu (fun _ _ _ d _ h=>by cases d <;> exact h) ?_
     (case aO=>exact Zae (Zaj (Zaf HNd.r4) hb1) (fun k hk=>by (try dsimp only at hk ⊢);omega))
     (case aT=>exact fun k hk=>by (try dsimp only at hk ⊢);omega)
     (case aS=>exact fun k hk=>by (try dsimp only at hk ⊢);omega)
     (case aF=>exact fun k hk=>by (try dsimp only at hk ⊢);omega)
     (case aL=>simp;omega)
     rintro B L9 d w2 vA vB-hR HB2 hgr hk2 -
     have HN_n:=(HNd.app_outs hb1 hgr hR).step (w1:=w2.setCell ⟨g,6,none⟩ (.slice B L9 d)) (fun b_ hk _=>Below.heap_setCell w2 ⟨g,6,none⟩ (.slice B L9 d) b_ (by (try dsimp only at hk ⊢);omega))
     have HB_n:=Zak (j:=6) (v:=.slice B L9 d) HB2 (show w.heap.size≤g by omega)
     have Ng_n:=Zau ((hk2 g (Zao Ng_d) hgu).trans Ng_d) 6 (.slice B L9 d)
     have N0_n:=Zav (p:=⟨g,6,none⟩) ((hk2 _ (Zao N0_d) (fun e=>by have:=((Zca HN.r4) _ e.symm).1;(try dsimp only at this);omega)).trans N0_d) (show (w.heap.size+1)≠g by omega) (.slice B L9 d)
     have Np_n:=Zav (p:=⟨g,6,none⟩) ((hk2 _ (Zao Np_d) (fun e=>by have:=((Zca HN.r4) _ e.symm).1;(try dsimp only at this);omega)).trans Np_d) (show w.heap.size≠g by omega) (.slice B L9 d)
     simp only [Act.put,pkA,pkB,pkC]
     rw [Zjt Zdr x.ways k hlt] at HN_n
     clear HN HNd HB Ng N0 Np
     have HN:NodR (w2.setCell ⟨g,6,none⟩ (.slice B L9 d)) (fun k=>w.heap.size≤k∧k≠w.heap.size∧k≠w.heap.size+1∧k≠g) ⟨false,b,0,x.cells.map (fun _=>Zbt),(x.ways.take (k+1)).map (fun y:Wy=>Zbd y.depth),(x.ways.take (k+1)).map (fun y:Wy=>Zbd y.depth),(x.ways.take (k+1)).map (fun _=>Zdr),(x.ways.take (k)).map (fun _=>Zez),List.replicate n 0,List.replicate n 0⟩ (lab Wd.heap.size f__ 6) (u1) (v2) (v3) (.slice B L9 d) (u5) (.slice B6 n d6) (.slice B7 n d7):=HN_n
     have HB:=HB_n
     have N0:=N0_n
     have Np:=Np_n
     have Ng:(w2.setCell ⟨g,6,none⟩ (.slice B L9 d)).heap[g]? = some (.cells #[.bool false,.int .i64 b,.int .i64 0,u1,v2,v3,.slice B L9 d,u5,.slice B6 n d6,.slice B7 n d7] 98 (0,0)):=Ng_n
     clear HN_n HB_n N0_n Np_n Ng_n Ng_d N0_d Np_d hb1 hk1 hp HB_d HB_1 hk2 hgr hR HB2 hgu hsz1
     generalize w2.setCell ⟨g,6,none⟩ (.slice B L9 d)=W4 at *
     generalize Value.slice B L9 d=v4 at *
     generalize lab Wd.heap.size f__ 6=f___ at *
     clear hd hs hgl
     have hgl:=Zao Ng
     obtain ⟨-,-,-,-,-,-,-,e7⟩:=cellsP8 Ng
     have hgu:some g≠u5.ownBlock:=fun e=>by have:=((Zca HN.r5) _ e.symm).1;(try dsimp only at this);omega
     go_wp2_with ((with_reducible refine Zfo (b:=.append) (xs:=#[.tmp 64,.tmp 66]) rfl ?_);at_builtin;(refine Zdg kInI (w0:=w) rfl (.tmp 64) (.tmp 66) 94 170 _ _ rfl Tryz.underlying94 iInI rfl (by decide) (by omega) (u5) ((x.ways.take k).map (fun _=>Zez)) Zez [.int .i64 0,.int .i64 0,.int .i64 0] (fun k=>(fun k=>w.heap.size≤k∧k≠w.heap.size∧k≠w.heap.size+1∧k≠g) k∧((k<W4.heap.size∧f___ k=7)∨W4.heap.size≤k)) (fun k=>W4.heap.size≤k) rfl rfl (Zxk Zez _ _) (Zae (Zaf HN.r5) (fun k hk=>by (try dsimp only at hk ⊢);omega)) (fun k hk=>by (try dsimp only at hk ⊢);omega) (fun k hk=>by (try dsimp only at hk ⊢);omega) (fun k hk=>by (try dsimp only at hk ⊢);omega) HB (by simp;omega) ?_);intro v1 w2 hR HB2 hgr hat;obtain ⟨B,d,rfl,-,-⟩:=Zbl hR;generalize ((x.ways.take k).map (fun _=>Zez)++[Zez]).length=L9 at *;have Ng_d:=Zch Ng hgr hgu;have N0_d:=Zch N0 hgr (fun e=>by have:=((Zca HN.r5) _ e.symm).1;(try dsimp only at this);omega);have Np_d:=Zch Np hgr (fun e=>by have:=((Zca HN.r5) _ e.symm).1;(try dsimp only at this);omega);obtain ⟨-,-,-,-,-,-,-,e8⟩:=cellsP8 Ng_d;have f8:=Zad Ng_d 7)
     have HN_n:=(HN.app_ins brf_ hgr hR).step (w1:=w2.setCell ⟨g,7,none⟩ (.slice B L9 d)) (fun b_ hk _=>Below.heap_setCell w2 ⟨g,7,none⟩ (.slice B L9 d) b_ (by (try dsimp only at hk ⊢);omega))
     rw [Zjt Zez x.ways k hlt] at HN_n
     refine ⟨⟨k+1,_,_,_,_,_,_,by omega,rfl,Zau Ng_d 7 (.slice B L9 d),Zav (p:=⟨g,7,none⟩) N0_d (show (w.heap.size+1)≠g by omega) (.slice B L9 d),Zav (p:=⟨g,7,none⟩) Np_d (show w.heap.size≠g by omega) (.slice B L9 d),HN_n,Zak (j:=7) (v:=.slice B L9 d) HB2 (show w.heap.size≤g by omega)⟩, ?_⟩
     simp [intOf]
     omega
    ·have e:k=x.ways.length:=by omega
     subst e
     simp only [List.take_length] at HN
     obtain ⟨E1,L1,g1,rfl⟩:=Zba HN.r1
     obtain ⟨E2,L2,g2,rfl⟩:=Zba HN.r2
     obtain ⟨E3,L3,g3,rfl⟩:=Zba HN.r3
     obtain ⟨E4,L4,g4,rfl⟩:=Zba HN.r4
     obtain ⟨E5,L5,g5,rfl⟩:=Zba HN.r5
     go_wp2_with (refine Zen 98 5 4 69 g (w.heap.size+1) #[.bool false,.int .i64 b,.int .i64 0,.slice E1 L1 g1,.slice E2 L2 g2,.slice E3 L3 g3,.slice E4 L4 g4,.slice E5 L5 g5,.slice B6 n d6,.slice B7 n d7] #[.bool false,.int .i64 0,.int .i64 0,.slice none 0 0,.slice none 0 0,.slice none 0 0,.slice none 0 0,.slice none 0 0,.slice none 0 0,.slice none 0 0] 98 98 _ ⟨rfl,rfl,rfl⟩ ⟨rfl,rfl,rfl⟩ rfl rfl (by decide) (show 69<70 by decide) Ng N0 Tryz.underlying98 rfl (by kernel_rfl) rfl (by simp [Value.oneCell']) ?_;intro w9 N9 hk)
     refine bodyPost_ret (results_cell_row rfl _ _ (w.heap.size+1) 98 #[.bool false,.int .i64 b,.int .i64 0,.slice E1 L1 g1,.slice E2 L2 g2,.slice E3 L3 g3,.slice E4 L4 g4,.slice E5 L5 g5,.slice B6 n d6,.slice B7 n d7] (0,0) _ rfl N9 Tryz.underlying98 rfl (by kernel_rfl)) rfl ?_
     have hx:Zbm x b false=⟨false,b,0,x.cells.map (fun _=>Zbt),x.ways.map (fun y:Wy=>Zbd y.depth),x.ways.map (fun y:Wy=>Zbd y.depth),x.ways.map (fun _=>Zdr),x.ways.map (fun _=>Zez),List.replicate n 0,List.replicate n 0⟩:=by
      unfold Zbm
      rw [hn]
      rfl
     rw [hx]
     exact ⟨⟨_,rfl,Zbx (HN.step (fun b_ h hl=>hk.block b_ hl (fun e=>h.2.2.1 e))).own (fun k hk=>hk.1)⟩,HB.trans ⟨hk.os,hk.tape,hk.output,hk.size,fun b_ hb=>hk.block b_ (by have:=HB.size;omega) (fun e=>by omega)⟩⟩
end Go.Proofs.YtaeckoinpllpnaaGreat
namespace Go.Proofs.YtaeckoinpllpnaaGreat
open Go.RowKit Go.Proofs.YtaeckoinpllpnaaGreatW.PrintWords
theorem Zko {α:Type} {n j:Nat} {z y:α} (h:(List.replicate n z)[j]? = some y):y=z:=by
 have:=List.mem_of_getElem? h
 exact (List.mem_replicate.1 this).2
theorem Zid (A:Option Addr) (c m:Nat) (n:Int) (hn:n=(m:Int)) (xs:List Int) (w:World) (hA:Rd kInt w A xs) (hl:xs.length=m) (hall:∀ (j:Nat) (y:Int),xs[j]? = some y→inB y 0 255=true) :
  Calls Tryz.prog 233 #[.slice A m c,.int .i64 n] w fun e w'=>e=.returned (.bool true)∧Below w.heap.size w w':=by
 have hm:=Zax hA
 subst hn
 subst hl
 go_enter Tryz.func233,Tryz.ntmps233
 go_wp2
 go_loopw [5] (fun i wr=>∃ k:Nat,k≤xs.length∧i=.int .i64 k∧Below w.heap.size w wr) (fun i _=>xs.length-(intOf i).toNat)
 case atStart=>exact ⟨0,Nat.zero_le _,rfl,brf_⟩
 case round =>
  obtain ⟨k,hk,rfl,hb⟩:=hrel
  by_cases hlt:k<xs.length
  ·obtain ⟨x,hx⟩:=Zar xs hlt
   obtain ⟨ad,rfl,a0⟩:=Zeq (Zac hA hb) hx
   have h1:=hall k x hx
   have hcon:=Zaz x 0 255
   rw [h1] at hcon
   clear hall hx h1
   go_wp2_with (go_at_call 94;refine (hcon _).mono ?_;rintro e w1 ⟨rfl,rfl⟩)
   refine ⟨⟨k+1,by omega,rfl,hb⟩, ?_⟩
   simp [intOf]
   omega
  ·have e:k=xs.length:=by omega
   subst e
   go_wp2
   go_ret
   exact ⟨rfl,hb⟩
theorem Zts (A1 A2:Option Addr) (c1 c2:Nat) (w:World) (h1:Rd kInt w A1 (List.replicate 4 0)) (h2:Rd kInt w A2 (List.replicate 8 0)) :
  Calls Tryz.prog 210 #[.agg #[.int .i64 0,.slice A1 4 c1,.slice A2 8 c2,.int .i64 0]] w fun e w'=>e=.returned (.bool true)∧Below w.heap.size w w':=by
 obtain ⟨W,eW,hb0,N0⟩:=new1 w (.cells #[.int .i64 0,.slice A1 4 c1,.slice A2 8 c2,.int .i64 0] 100)
 have q1:=fun (w1:World) (h:Below w.heap.size w w1)=>Zid A1 c1 4 4 rfl _ w1 (Zac h1 h) rfl (fun j y hy=>by rw [Zko hy];rfl)
 have q2:=fun (w1:World) (h:Below w.heap.size w w1)=>Zid A2 c2 8 8 rfl _ w1 (Zac h2 h) rfl (fun j y hy=>by rw [Zko hy];rfl)
 have q3:=fun w=>Zaz 0 0 24 w
 have q4:=fun w=>Zaz 0 0 2 w
 rw [show inB 0 0 24=true from rfl] at q3
 rw [show inB 0 0 2=true from rfl] at q4
 go_enter Tryz.func210,Tryz.ntmps210
 go_upto_region 1 with (fail)
 refine wp_at eW ?_
 clear eW
 obtain ⟨e0,e1⟩:=cellsP2 N0
 go_wp2_with (first
  | (go_at_call 94;with_reducible refine (q4 _).mono ?_;rintro e w9 ⟨rfl,rfl⟩)
  | (go_at_call 233;with_reducible refine (q2 _ hb1).mono ?_;rintro e w2 ⟨rfl,hb2⟩;have hb3:=hb1.trans (hb2.mono hb1.size);have e3:w2.cell? ⟨w.heap.size,3,none⟩=some (.int .i64 0):=Zag (Zab N1 hb2) rfl)
  | (go_at_call 233;with_reducible refine (q1 _ hb0).mono ?_;rintro e w1 ⟨rfl,hb9⟩;have hb1:=hb0.trans (hb9.mono hb0.size);have N1:=Zab N0 hb9;have e2:w1.cell? ⟨w.heap.size,2,none⟩=some (.slice A2 8 c2):=Zag N1 rfl)
  | (go_at_call 94;with_reducible refine (q3 _).mono ?_;rintro e w9 ⟨rfl,rfl⟩))
 go_ret
 exact ⟨rfl,hb3⟩
theorem Zrz (cs:List Value) (w:World) (hc:allK w Zbt Zby cs) :
  Calls Tryz.prog 172 #[.agg cs.toArray] w fun e w'=>e=.returned (.bool true)∧Below w.heap.size w w':=by
 obtain ⟨A1,c1,A2,c2,A3,c3,rfl,l1,r1,l2,r2,l3,r3⟩:=Zfp hc
 have hb0:=(Below.refl w.heap.size w).alloc nlr_ (.cells #[.int .i64 0,.slice A1 4 c1,.slice A2 8 c2,.int .i64 0,.slice A3 0 c3] 103)
 have N0:=Zas w (.cells #[.int .i64 0,.slice A1 4 c1,.slice A2 8 c2,.int .i64 0,.slice A3 0 c3] 103)
 have q:=Zts A1 A2 c1 c2 _ (Zac r1 hb0) (Zac r2 hb0)
 change Calls _ _ #[.agg #[.int .i64 0,.slice A1 4 c1,.slice A2 8 c2,.int .i64 0,.slice A3 0 c3]] _ _
 go_enter Tryz.func172,Tryz.ntmps172
 go_wp2_with (go_at_call 210;with_reducible refine q.mono ?_;rintro e w1 ⟨rfl,hb9⟩;have e4:w1.cell? ⟨w.heap.size,4,none⟩=some (.slice A3 0 c3):=Zag (Zab N0 hb9) rfl)
 go_ret
 exact ⟨rfl,hb0.trans (hb9.mono hb0.size)⟩
theorem Zgh (A B:Option Addr) (c d m:Nat) (xs:List Int) (w:World) (hA:Rd kInt w A xs) (hB:Rd kInt w B xs) (hl:xs.length=m) :
  Calls Tryz.prog 211 #[.slice A m c,.slice B m d] w fun e w'=>e=.returned (.bool true)∧Below w.heap.size w w':=by
 have hm:=Zax hA
 subst hl
 go_enter Tryz.func211,Tryz.ntmps211
 go_wp2
 go_loopw [5] (fun i wr=>∃ k:Nat,k≤xs.length∧i=.int .i64 k∧Below w.heap.size w wr) (fun i _=>xs.length-(intOf i).toNat)
 case atStart=>exact ⟨0,Nat.zero_le _,rfl,brf_⟩
 case round =>
  obtain ⟨k,hk,rfl,hb⟩:=hrel
  by_cases hlt:k<xs.length
  ·obtain ⟨x,hx⟩:=Zar xs hlt
   obtain ⟨ad,rfl,a0⟩:=Zeq (Zac hA hb) hx
   obtain ⟨bd,rfl,b0⟩:=Zeq (Zac hB hb) hx
   clear hx
   go_wp2_with (fail)
   refine Zan (by kernel_rfl) (by kernel_rfl) ?_
   have hx:=Zbg wr
   repeat (go_big_quiet_step (fail))
   refine wpQuiet_nil ?_
   rintro _ ⟨wt,rfl⟩
   have hbx:=Zam wr wt
   clear hx
   go_wp2
   refine ⟨⟨k+1,by omega,rfl,hb.trans (hbx.mono hb.size)⟩, ?_⟩
   simp [intOf]
   omega
  ·have e:k=xs.length:=by omega
   subst e
   go_wp2
   go_ret
   exact ⟨rfl,hb⟩
theorem Zql (A B:Option Addr) (c d:Nat) (w:World) (hA:Rd Zdh w A []) (hB:Rd Zdh w B []) :
  Calls Tryz.prog 212 #[.slice A 0 c,.slice B 0 d] w fun e w'=>e=.returned (.bool true)∧Below w.heap.size w w':=by
 have q1:=Kd.C_string (P:=Tryz.prog) (src:=101) (dst:=9) (c:=c) Tryz.underlying101 Tryz.underlying5 Tryz.underlying9 (Zqf hA)
 have q2:=Kd.C_string (P:=Tryz.prog) (src:=101) (dst:=9) (c:=d) Tryz.underlying101 Tryz.underlying5 Tryz.underlying9 (Zqf hB)
 simp only [List.length_nil] at q1 q2
 go_enter Tryz.func212,Tryz.ntmps212
 go_wp2
 go_ret
 exact ⟨rfl,brf_⟩
theorem Zsa (d:Int) (hd:inB d 1 4=true) (A:Option Addr) (c:Nat) (w:World) :
  Calls Tryz.prog 213 #[.agg #[.int .i64 d,.slice A 0 c]] w fun e w'=>e=.returned (.bool true)∧Below w.heap.size w w':=by
 have hb0:=(Below.refl w.heap.size w).alloc nlr_ (.cells #[.int .i64 d,.slice A 0 c] 109)
 have q:=fun w=>Zaz d 1 4 w
 rw [hd] at q
 have hd0:(0:Int)≤d:=by simp [inB] at hd;omega
 go_enter Tryz.func213,Tryz.ntmps213
 go_wp2_with (go_at_call 94;with_reducible refine (q _).mono ?_;rintro e w1 ⟨rfl,rfl⟩)
 go_loopw [3] (fun i wr=>i=.int .i64 0∧Below (w.alloc (.cells #[.int .i64 d,.slice A 0 c] 109)).heap.size (w.alloc (.cells #[.int .i64 d,.slice A 0 c] 109)) wr) (fun _ _=>0)
 case atStart=>exact ⟨rfl,brf_⟩
 case round =>
  obtain ⟨rfl,hb⟩:=hrel
  have e1:wr.cell? ⟨w.heap.size,1,none⟩=some (.slice A 0 c):=Zag (Zab (Zas w _) hb) rfl
  have hb1:=hb0.trans (hb.mono hb0.size)
  go_wp2
  go_ret
  exact ⟨rfl,hb1⟩
theorem Zjx (cs ds:List Value) (w:World) (hc:allK w Zbt Zby cs) (hd:allK w Zbt Zby ds) :
  Calls Tryz.prog 173 #[.agg cs.toArray,.agg ds.toArray] w fun e w'=>e=.returned (.bool true)∧Below w.heap.size w w':=by
 obtain ⟨A1,c1,A2,c2,A3,c3,rfl,l1,r1,l2,r2,l3,r3⟩:=Zfp hc
 obtain ⟨B1,d1,B2,d2,B3,d3,rfl,m1,s1,m2,s2,m3,s3⟩:=Zfp hd
 obtain ⟨W,eW,hb0,N0,N1⟩:=new2 w (.cells #[.int .i64 0,.slice A1 4 c1,.slice A2 8 c2,.int .i64 0,.slice A3 0 c3] 103) (.cells #[.int .i64 0,.slice B1 4 d1,.slice B2 8 d2,.int .i64 0,.slice B3 0 d3] 103)
 have q1:=fun (w1:World) (h:Below w.heap.size w w1)=>Zgh A1 B1 c1 d1 4 _ w1 (Zac r1 h) (Zac s1 h) rfl
 have q2:=fun (w1:World) (h:Below w.heap.size w w1)=>Zgh A2 B2 c2 d2 8 _ w1 (Zac r2 h) (Zac s2 h) rfl
 have q3:=fun (w1:World) (h:Below w.heap.size w w1)=>Zql A3 B3 c3 d3 w1 (Zac r3 h) (Zac s3 h)
 change Calls _ _ #[.agg #[.int .i64 0,.slice A1 4 c1,.slice A2 8 c2,.int .i64 0,.slice A3 0 c3],.agg #[.int .i64 0,.slice B1 4 d1,.slice B2 8 d2,.int .i64 0,.slice B3 0 d3]] _ _
 go_enter Tryz.func173,Tryz.ntmps173
 go_upto_region 1 with (fail)
 refine wp_at eW ?_
 clear eW
 obtain ⟨a0,a1,-,a3⟩:=cellsP4 N0;obtain ⟨b0,b1,-,b3⟩:=cellsP4 N1
 go_wp2_with (first
  | (go_at_call 212;with_reducible refine (q3 _ hb2).mono ?_;rintro e w3 ⟨rfl,hb9⟩;have hb3:=hb2.trans (hb9.mono hb2.size))
  | (go_at_call 211;with_reducible refine (q2 _ hb1).mono ?_;rintro e w2 ⟨rfl,hb8⟩;have hb2:=hb1.trans (hb8.mono hb1.size);have M2:=Zab M0 hb8;have M3:=Zab M1 hb8;have g4:w2.cell? ⟨w.heap.size,4,none⟩=some (.slice A3 0 c3):=Zag M2 rfl;have h4:w2.cell? ⟨w.heap.size+1,4,none⟩=some (.slice B3 0 d3):=Zag M3 rfl)
  | (go_at_call 211;with_reducible refine (q1 _ hb0).mono ?_;rintro e w1 ⟨rfl,hb7⟩;have hb1:=hb0.trans (hb7.mono hb0.size);have M0:=Zab N0 hb7;have M1:=Zab N1 hb7;have e2:w1.cell? ⟨w.heap.size,2,none⟩=some (.slice A2 8 c2):=Zag M0 rfl;have f2:w1.cell? ⟨w.heap.size+1,2,none⟩=some (.slice B2 8 d2):=Zag M1 rfl))
 go_ret
 exact ⟨rfl,hb3⟩
theorem Zsb (A B:Option Addr) (c d n:Nat) (hn1:1≤n) (hn4:n≤4) (w:World) (hA:Rd kInt w A (List.replicate n 0)) (hB:Rd kInt w B (List.replicate n 0)) :
  Calls Tryz.prog 126 #[.agg #[.slice A n c,.slice B n d]] w fun e w'=>e=.returned (.bool true)∧Below w.heap.size w w':=by
 obtain ⟨W,eW,hb0,N0⟩:=new1 w (.cells #[.slice A n c,.slice B n d] 96)
 have q1:∀ w:World,Calls Tryz.prog 94 #[.int .i64 n,.int .i64 1,.int .i64 4] w fun e w'=>e=.returned (.bool true)∧w'=w:=fun w=>(Zaz n 1 4 w).mono (fun e w1 h=>⟨h.1.trans (by rw [show inB (n:Int) 1 4=true by simp [inB];omega]),h.2⟩)
 have q2:=fun w=>Zaz 0 0 60000 w
 rw [show inB 0 0 60000=true from rfl] at q2
 go_enter Tryz.func126,Tryz.ntmps126
 go_upto_region 1 with (fail)
 refine wp_at eW ?_
 clear eW
 obtain ⟨e0,e1⟩:=cellsP2 N0
 go_wp2_with (go_at_call 94;with_reducible refine (q1 _).mono ?_;rintro e w9 ⟨rfl,hw9⟩;rw [hw9];clear hw9)
 clear e0 e1
 go_loopw [3] (fun i wr=>∃ k:Nat,k≤n∧i=.int .i64 k∧Below W.heap.size W wr) (fun i _=>n-(intOf i).toNat)
 case atStart=>exact ⟨0,Nat.zero_le _,rfl,brf_⟩
 case round =>
  obtain ⟨k,hk,rfl,hb⟩:=hrel
  have hb1:=hb0.trans (hb.mono hb0.size)
  obtain ⟨e0,e1⟩:=cellsP2 (Zab N0 hb)
  by_cases hlt:k<n
  ·obtain ⟨x,hx⟩:=Zar (List.replicate n (0:Int)) (show k<(List.replicate n (0:Int)).length by simpa using hlt)
   obtain rfl:=Zko hx
   obtain ⟨ad,rfl,a0⟩:=Zeq (Zac hA hb1) hx
   obtain ⟨bd,rfl,b0⟩:=Zeq (Zac hB hb1) hx
   clear hx
   go_wp2_with (go_at_call 94;with_reducible refine (q2 _).mono ?_;rintro e w9 ⟨rfl,rfl⟩)
   refine ⟨⟨k+1,by omega,rfl,hb⟩, ?_⟩
   simp [intOf]
   omega
  ·have e:k=n:=by omega
   subst e
   go_wp2
   go_ret
   exact ⟨rfl,hb1⟩
theorem Zok (A B:Option Addr) (c d n:Nat) (hn4:n≤4) (w:World) (hA:Rd kInt w A (List.replicate n 0)) :
  Calls Tryz.prog 127 #[.agg #[.slice A n c,.slice B n d]] w fun e w'=>e=.returned (.bool true)∧Below w.heap.size w w':=by
 obtain ⟨W,eW,hb0,N0⟩:=new1 w (.cells #[.slice A n c,.slice B n d] 96)
 go_enter Tryz.func127,Tryz.ntmps127
 go_upto_region 1 with (fail)
 refine wp_at eW ?_
 clear eW
 go_wp2
 go_loopw [3] (fun i wr=>∃ k:Nat,k≤n∧i=.int .i64 k∧Below W.heap.size W wr) (fun i _=>n-(intOf i).toNat)
 case atStart=>exact ⟨0,Nat.zero_le _,rfl,brf_⟩
 case round =>
  obtain ⟨k,hk,rfl,hb⟩:=hrel
  have hb1:=hb0.trans (hb.mono hb0.size)
  have e0:=cellsP1 (Zab N0 hb)
  by_cases hlt:k<n
  ·obtain ⟨x,hx⟩:=Zar (List.replicate n (0:Int)) (show k<(List.replicate n (0:Int)).length by simpa using hlt)
   obtain rfl:=Zko hx
   obtain ⟨ad,rfl,a0⟩:=Zeq (Zac hA hb1) hx
   clear hx
   go_wp2
   refine ⟨⟨k+1,by omega,rfl,hb⟩, ?_⟩
   simp [intOf]
   omega
  ·have e:k=n:=by omega
   subst e
   go_wp2
   go_ret
   exact ⟨rfl,hb1⟩
def plan13 (x:Pln):Bool:=decide ((x.turns.length:Int)=x.nodes)&&(List.range x.nodes.toNat).all fun k:Nat=>Zfn x k
def Zcz (x:Pln):Bool:=inB x.nodes 1 4&&(inB x.secret 0 4294967295&&(inB x.fuel 1 16&&(inB x.cells.length 1 8&&(x.cells.all (Zfc x.nodes)&&(decide (x.ways.length≤10)&&(x.ways.all (wyOk x.cells.length)&&(x.ways.all (Zfy x)&&(inB x.slots.length 1 12&&(x.slots.all (Zfe x)&&((List.range x.nodes.toNat).all (fun k:Nat=>Zci x.slots (k:Int) (-1))&&((List.range x.ways.length).all (fun k:Nat=>Zci x.slots (-1) (k:Int))&&(plan13 x&&((List.range x.cells.length).all (fun k:Nat=>Zgg x k)&&(List.range x.cells.length).all (fun k:Nat=>Zfs x k))))))))))))))
theorem Zoi {α:Type} {p:α→Bool} {xs:List α} {k:Nat} {x:α} (h:xs.all p=true) (hx:xs[k]? = some x):p x=true:=by
 rw [List.all_eq_true] at h
 obtain ⟨hl,hx⟩:=List.getElem?_eq_some_iff.1 hx
 exact h x (hx▸List.getElem_mem hl)
theorem Zeg {x lo hi:Int} (h:inB x lo hi=true):lo≤x∧x≤hi:=by simpa [inB] using h
theorem Zja {x:Pln} (h:x.ways.all (wyOk x.cells.length)=true):Zhg x:=by
 intro j y hy
 have h1:=Zoi h hy
 simp only [wyOk,Bool.and_eq_true] at h1
 have a:=Zeg h1.1
 have b:=Zeg h1.2.1
 omega
theorem Zxp {x:Pln} (h:x.cells.all (Zfc x.nodes)=true):∀ (k:Nat) (z:Cel),x.cells[k]? = some z→∀ (j:Nat) (o:Ord),z.code[j]? = some o→(o.op=9∨o.op=10)→0≤o.a:=by
 intro k z hz j o ho hop
 have h1:=Zoi h hz
 simp only [Zfc,Zkn,Bool.and_eq_true] at h1
 have h2:=Zoi h1.2.2.2 ho
 simp only [Zib,Zeb,Bool.and_eq_true] at h2
 exact (Zeg h2.1.2.1.1).1
theorem Zxq {x:Pln} (h:plan13 x=true) (hc:x.cells.all (Zfc x.nodes)=true):∀ (k:Nat) (z:Cel),x.cells[k]? = some z→0≤z.node∧∃ t,x.turns[z.node.toNat]? = some t∧t.length=x.slots.length:=by
 intro k z hz
 have h1:=Zoi hc hz
 simp only [Zfc,Bool.and_eq_true] at h1
 have h2:=Zeg h1.1
 simp only [plan13,Bool.and_eq_true,decide_eq_true_eq] at h
 obtain ⟨ht,hall⟩:=h
 refine ⟨h2.1, ?_⟩
 have hl:z.node.toNat<x.turns.length:=by omega
 have h3:=Zoi hall (Zbe (show z.node.toNat<x.nodes.toNat by omega))
 obtain ⟨t,ht2⟩:=Zar x.turns hl
 refine ⟨t,ht2, ?_⟩
 simp only [Zfn,ht2,Bool.and_eq_true,decide_eq_true_eq] at h3
 exact h3.1
theorem Zdn {α:Type} {p:α→Bool} {xs:List α} (h:xs.all p=false):Zcm p xs<xs.length:=by
 have:=Zqj p xs
 rw [h] at this
 simpa using this
end Go.Proofs.YtaeckoinpllpnaaGreat
