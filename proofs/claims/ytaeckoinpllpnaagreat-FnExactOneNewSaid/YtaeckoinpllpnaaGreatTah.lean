/- Part 8 of the proof of its last text: this session's own texts, shortened and joined by a program of its own (wip/pack.py). -/
import Derived.Test.YtaeckoinpllpnaaGreatTaa
import Derived.Test.YtaeckoinpllpnaaGreatTag
import Derived.Test.YtaeckoinpllpnaaGreatTae
set_option linter.unusedVariables false
set_option linter.unusedSimpArgs false
set_option maxHeartbeats 16000000
set_option maxRecDepth 100000
namespace Go.Proofs.YtaeckoinpllpnaaGreat
open Go.RowKit Go.Proofs.YtaeckoinpllpnaaGreatW.PrintWords Go.Proofs.YtaeckoinpllpnaaGreatW.PrintLast
theorem Zim (x:Pln) (cs:List Value) (w:World) (gp:Nat) (hP:allK w x kPln cs) (hN:∀ (i:Nat) (u:Value),cs[i]? = some u→w.cell? ⟨gp,i,none⟩=some u) (b:Int) (hn1:1≤x.nodes) (hn4:x.nodes≤4) (hdep:∀ (j:Nat) (y:Wy),x.ways[j]? = some y→inB y.depth 1 4=true) (hlc:x.cells.length≤8) (hlw:x.ways.length≤10) :
  Calls Tryz.prog 68 #[.pointer (some ⟨gp,0,none⟩),.int .i64 b] w fun e w'=>(∃ cs:List Value,e=.returned (.agg cs.toArray)∧Own kNod w' (fun k=>w.heap.size≤k) (Zbm x b false) cs)∧Below w.heap.size w w':=by
 obtain ⟨A1,c1,A2,c2,A3,c3,A4,c4,rfl,l1,r1,l2,r2,l3,r3,l4,r4⟩:=Zcs hP
 obtain ⟨n,hn⟩:∃ n:Nat,x.nodes=(n:Int):=⟨x.nodes.toNat,by omega⟩
 have hb0:=(Below.refl w.heap.size w).alloc nlr_ (.cells #[.bool false,.int .i64 0,.int .i64 0,.slice none 0 0,.slice none 0 0,.slice none 0 0,.slice none 0 0,.slice none 0 0,.slice none 0 0,.slice none 0 0] 98)
 have c0:w.cell? ⟨gp,0,none⟩=some (.int .i64 n):=hN _ _ (by rw [hn];rfl)
 have c3:w.cell? ⟨gp,3,none⟩=some (.slice A1 x.cells.length c1):=hN _ _ rfl
 have c4:w.cell? ⟨gp,4,none⟩=some (.slice A2 x.ways.length c2):=hN _ _ rfl
 have q:=Zqh n (w.alloc (.cells #[.bool false,.int .i64 0,.int .i64 0,.slice none 0 0,.slice none 0 0,.slice none 0 0,.slice none 0 0,.slice none 0 0,.slice none 0 0,.slice none 0 0] 98)) (by omega) (by omega)
 have e0:=Zaa hb0 c0
 go_enter Tryz.func68,Tryz.ntmps68
 go_upto_region 1 with (fail)
 go_upto_region 2 with (go_at_call 113;with_reducible refine q.mono ?_;rintro e w1 ⟨⟨u6,u7,f0,rfl,hh1,hh2⟩,hb1⟩;obtain ⟨B6,d6,e6,-,-⟩:=Zbl hh1;obtain ⟨B7,d7,e7,-,-⟩:=Zbl hh2;rw [List.length_replicate] at e6 e7;subst e6;subst e7)
 have N0_1:=Zab (Zas w _) hb1
 have hs1:w.heap.size+1≤w1.heap.size:=by have:=hb1.size;simpa using this
 have HB1:=hb0.trans (hb1.mono (by simp))
 change Code.wp _ _ _ _ (w1.alloc (.cells #[.bool false,.int .i64 b,.int .i64 0,.slice none 0 0,.slice none 0 0,.slice none 0 0,.slice none 0 0,.slice none 0 0,.slice B6 n d6,.slice B7 n d7] 98))
 have HB:=HB1.alloc (by omega) (.cells #[.bool false,.int .i64 b,.int .i64 0,.slice none 0 0,.slice none 0 0,.slice none 0 0,.slice none 0 0,.slice none 0 0,.slice B6 n d6,.slice B7 n d7] 98)
 have Ng:=Zas w1 (.cells #[.bool false,.int .i64 b,.int .i64 0,.slice none 0 0,.slice none 0 0,.slice none 0 0,.slice none 0 0,.slice none 0 0,.slice B6 n d6,.slice B7 n d7] 98)
 have N0:=Zal N0_1 (.cells #[.bool false,.int .i64 b,.int .i64 0,.slice none 0 0,.slice none 0 0,.slice none 0 0,.slice none 0 0,.slice none 0 0,.slice B6 n d6,.slice B7 n d7] 98)
 have hgl:=Zao Ng
 obtain ⟨g,hg0⟩:∃ g,w1.heap.size=g:=⟨_,rfl⟩
 rw [hg0] at Ng hgl ⊢
 have H0:NodR (w1.alloc (.cells #[.bool false,.int .i64 b,.int .i64 0,.slice none 0 0,.slice none 0 0,.slice none 0 0,.slice none 0 0,.slice none 0 0,.slice B6 n d6,.slice B7 n d7] 98)) (fun k=>w.heap.size≤k∧k≠w.heap.size∧k≠g) ⟨false,b,0,(x.cells.take (0)).map (fun _=>Zbt),(x.ways.take (0)).map (fun y:Wy=>Zbd y.depth),(x.ways.take (0)).map (fun y:Wy=>Zbd y.depth),(x.ways.take (0)).map (fun _=>Zdr),(x.ways.take (0)).map (fun _=>Zez),List.replicate n 0,List.replicate n 0⟩ (fun k=>f0 k+7) (.slice none 0 0) (.slice none 0 0) (.slice none 0 0) (.slice none 0 0) (.slice none 0 0) (.slice B6 n d6) (.slice B7 n d7) :=
  ⟨Zbq _ _ _ _,Zbq _ _ _ _,Zbq _ _ _ _,Zbq _ _ _ _,Zbq _ _ _ _,
   Zae (Zaj (Zaf hh1) ((brf_).alloc nlr_ _)) (fun k hk=>by have:=hk.1.1;simp at this;(try dsimp only at hk ⊢);omega),
   Zae (Zaj (Zaf hh2) ((brf_).alloc nlr_ _)) (fun k hk=>by have:=hk.1.1;simp at this;(try dsimp only at hk ⊢);omega)⟩
 generalize w1.alloc (.cells #[.bool false,.int .i64 b,.int .i64 0,.slice none 0 0,.slice none 0 0,.slice none 0 0,.slice none 0 0,.slice none 0 0,.slice B6 n d6,.slice B7 n d7] 98)=W0 at *
 clear hh1 hh2 hb1 N0_1 HB1 q e0 hb0
 have p3:=Zaa HB c3
 go_wp2
 go_loopw [20] (fun i wr=>∃ (k:Nat) (u1:Value) (f:Nat→Nat),k≤x.cells.length∧i=.int .i64 k∧wr.heap[g]? = some (.cells #[.bool false,.int .i64 b,.int .i64 0,u1,.slice none 0 0,.slice none 0 0,.slice none 0 0,.slice none 0 0,.slice B6 n d6,.slice B7 n d7] 98 (0,0))∧wr.heap[w.heap.size]? = some (.cells #[.bool false,.int .i64 0,.int .i64 0,.slice none 0 0,.slice none 0 0,.slice none 0 0,.slice none 0 0,.slice none 0 0,.slice none 0 0,.slice none 0 0] 98 (0,0))∧NodR wr (fun k=>w.heap.size≤k∧k≠w.heap.size∧k≠g) ⟨false,b,0,(x.cells.take (k)).map (fun _=>Zbt),(x.ways.take (0)).map (fun y:Wy=>Zbd y.depth),(x.ways.take (0)).map (fun y:Wy=>Zbd y.depth),(x.ways.take (0)).map (fun _=>Zdr),(x.ways.take (0)).map (fun _=>Zez),List.replicate n 0,List.replicate n 0⟩ f (u1) (.slice none 0 0) (.slice none 0 0) (.slice none 0 0) (.slice none 0 0) (.slice B6 n d6) (.slice B7 n d7)∧Below w.heap.size w wr) (fun i _=>x.cells.length-(intOf i).toNat)
 case atStart=>exact ⟨0,_,_,Nat.zero_le _,rfl,Ng,N0,H0,HB⟩
 case round =>
  clear Ng N0 H0 HB hgl p3
  obtain ⟨k,u1,f,hk,rfl,Ng,N0,HN,HB⟩:=hrel
  have hgl:=Zao Ng
  by_cases hlt:k<x.cells.length
  ·go_wp2_with (fail)
   refine Zcf 7 u1.ownBlock [6] (by kernel_rfl) rfl rfl ?_
   intro Wd hd hs
   have N0_d:=Zab N0 hd
   have Ng_d:=Zab Ng hd
   have HNd:=HN.step (w1:=Wd) (fun k _ hl=>hd.block k hl)
   have hgu:some g≠u1.ownBlock:=fun e=>by have:=((Zca HN.r1) _ e.symm).1;(try dsimp only at this);omega
   have HB_d:=HB.trans (hd.mono HB.size)
   refine head2 7 0 22 23 5 35 98 3 3 g (u:=u1) ⟨rfl,rfl⟩ (by kernel_rfl) ⟨rfl,rfl,rfl⟩ ⟨rfl,rfl,rfl⟩ rfl (show 22<68 by decide) (fun w1=>by go_simp) (fun w1 h=>by go_simp) (fun w1 hk=>hk.cell Ng_d hgu rfl) (Zbc.refl _ _) (fun _ _ _ d _ h=>by cases d <;> exact h) ?_
   refine Zbb (by simp only [Act.put,pkA,pkB,pkC];rfl) ?_
   refine Zdt 7 2 24 (fun v w1=>∃ cs:List Value,v=.agg cs.toArray∧Own Zby w1 (fun k=>Wd.heap.size≤k) Zbt cs) rfl (by decide) (by kernel_rfl) rfl rfl rfl Tryz.func114 (by kernel_rfl) rfl #[] (by (try simp only [List.map_toArray,List.map_cons,List.map_nil]);first | done | rfl) ((Zix Wd).mono (fun e w9 h=>⟨match h.1 with | ⟨cs,he,ho⟩=>⟨_,he,cs,rfl,ho⟩,h.2⟩)) (Zbc.refl _ _) nlr_ ?_
   rintro v w1 ⟨cs1,rfl,hp⟩ hb1 hk1
   obtain ⟨y1,y2,y3,ff,rfl,-,-,-⟩:=Zfz hp
   refine Zbb (by simp only [Act.put,pkA,pkB,pkC];rfl) ?_
   have HB_1:=HB_d.trans (hb1.mono HB_d.size)
   have hsz1:=hb1.size
   refine Zcl Zby (w0:=w) 7 3 23 24 25 26 27 5 35 103 98 3 3 68 g (u:=u1) (xs:=(x.cells.take k).map (fun _=>Zbt)) (fun k=>(fun k=>w.heap.size≤k∧k≠w.heap.size∧k≠g) k∧((k<Wd.heap.size∧f k=3)∨Wd.heap.size≤k)) (fun k=>Wd.heap.size≤k) ⟨rfl,rfl,rfl,rfl⟩ (by kernel_rfl) ⟨rfl,rfl,rfl⟩ ⟨rfl,rfl,rfl⟩ ⟨rfl,rfl,rfl⟩ ⟨rfl,rfl,rfl⟩ rfl (by decide) rfl rfl (fun w1=>by go_simp <;> (constructor <;> rfl)) (fun w1=>by go_simp) Tryz.underlying35 Zsw rfl (by decide) (by omega) (fun _=>by go_simp) hp ?aO ?aT ?aS ?aF HB_1 ?aL hk1 hb1.size Ng_d (show 3<10 by decide) hgu (fun _ _ _ d _ h=>by cases d <;> exact h) ?_
   (case aO=>exact Zae (Zaj (Zaf HNd.r1) hb1) (fun k hk=>by (try dsimp only at hk ⊢);omega))
   (case aT=>exact fun k hk=>by (try dsimp only at hk ⊢);omega)
   (case aS=>exact fun k hk=>by (try dsimp only at hk ⊢);omega)
   (case aF=>exact fun k hk=>by (try dsimp only at hk ⊢);omega)
   (case aL=>simp;omega)
   rintro B L9 d w2 vA vB-hR HB2 hgr hk2 -
   have HN_n:=(HNd.app_cells hb1 hgr hR).step (w1:=w2.setCell ⟨g,3,none⟩ (.slice B L9 d)) (fun b_ hk _=>Below.heap_setCell w2 ⟨g,3,none⟩ (.slice B L9 d) b_ (by (try dsimp only at hk ⊢);omega))
   have HB_n:=Zak (j:=3) (v:=.slice B L9 d) HB2 (show w.heap.size≤g by omega)
   have Ng_n:=Zau ((hk2 g (Zao Ng_d) hgu).trans Ng_d) 3 (.slice B L9 d)
   have N0_n:=Zav (p:=⟨g,3,none⟩) ((hk2 _ (Zao N0_d) (fun e=>by have:=((Zca HN.r1) _ e.symm).1;(try dsimp only at this);omega)).trans N0_d) (show w.heap.size≠g by omega) (.slice B L9 d)
   simp only [Act.put,pkA,pkB,pkC]
   clear HN HNd HB Ng N0 Ng_d N0_d hd hs hb1 hk1 hp HB_d HB_1 hk2 hgr
   go_wp2
   refine ⟨⟨k+1,_,_,by omega,rfl,Ng_n,N0_n,by rw [Zjt Zbt x.cells k hlt] at HN_n;exact HN_n,HB_n⟩, ?_⟩
   simp [intOf]
   omega
  ·have e:k=x.cells.length:=by omega
   subst e
   rw [List.take_length] at HN
   have p4:=Zaa HB c4
   go_wp2
   clear p4
   go_loopw [34] (fun i wr=>∃ (k:Nat) (u2 u3 u4 u5:Value) (f:Nat→Nat),k≤x.ways.length∧i=.int .i64 k∧wr.heap[g]? = some (.cells #[.bool false,.int .i64 b,.int .i64 0,u1,u2,u3,u4,u5,.slice B6 n d6,.slice B7 n d7] 98 (0,0))∧wr.heap[w.heap.size]? = some (.cells #[.bool false,.int .i64 0,.int .i64 0,.slice none 0 0,.slice none 0 0,.slice none 0 0,.slice none 0 0,.slice none 0 0,.slice none 0 0,.slice none 0 0] 98 (0,0))∧NodR wr (fun k=>w.heap.size≤k∧k≠w.heap.size∧k≠g) ⟨false,b,0,x.cells.map (fun _=>Zbt),(x.ways.take (k)).map (fun y:Wy=>Zbd y.depth),(x.ways.take (k)).map (fun y:Wy=>Zbd y.depth),(x.ways.take (k)).map (fun _=>Zdr),(x.ways.take (k)).map (fun _=>Zez),List.replicate n 0,List.replicate n 0⟩ f (u1) (u2) (u3) (u4) (u5) (.slice B6 n d6) (.slice B7 n d7)∧Below w.heap.size w wr) (fun i _=>x.ways.length-(intOf i).toNat)
   case atStart=>exact ⟨0,_,_,_,_,_,Nat.zero_le _,rfl,Ng,N0,HN,HB⟩
   case round =>
    clear Ng N0 HN HB hgl hlt hk
    obtain ⟨k,u2,u3,u4,u5,f,hk,rfl,Ng,N0,HN,HB⟩:=hrel
    have hgl:=Zao Ng
    by_cases hlt:k<x.ways.length
    ·obtain ⟨y,hy⟩:=Zar x.ways hlt
     have hdy:=hdep k y hy
     obtain ⟨ad,B1,d1,rfl,y0,y1,y2,y3,y4,m1,s1⟩:=Zhc (Zac r2 HB) hy
     go_upto_region 9 with (fail)
     clear y0 y1 y2 y3 y4 s1 m1
     change Code.wp _ _ _ _ (wr.alloc (.cells #[.int .i64 y.frm,.int .i64 y.dst,.int .i64 y.depth,.bool y.guarded,.slice B1 y.guard.length d1] 112))
     have Ny:=Zas wr (.cells #[.int .i64 y.frm,.int .i64 y.dst,.int .i64 y.depth,.bool y.guarded,.slice B1 y.guard.length d1] 112)
     replace Ng:=Zal Ng (.cells #[.int .i64 y.frm,.int .i64 y.dst,.int .i64 y.depth,.bool y.guarded,.slice B1 y.guard.length d1] 112)
     replace N0:=Zal N0 (.cells #[.int .i64 y.frm,.int .i64 y.dst,.int .i64 y.depth,.bool y.guarded,.slice B1 y.guard.length d1] 112)
     replace HB:=HB.alloc HB.size (.cells #[.int .i64 y.frm,.int .i64 y.dst,.int .i64 y.depth,.bool y.guarded,.slice B1 y.guard.length d1] 112)
     obtain ⟨gy,hgy⟩:∃ gy,wr.heap.size=gy:=⟨_,rfl⟩
     have HN:=HN.skip (T:=fun k=>w.heap.size≤k∧k≠w.heap.size∧k≠g∧k≠gy) (w1:=wr.alloc (.cells #[.int .i64 y.frm,.int .i64 y.dst,.int .i64 y.depth,.bool y.guarded,.slice B1 y.guard.length d1] 112)) (fun k _ hl=>Below.heap_alloc _ _ _ hl) (fun k hk hl=>by (try dsimp only at hk ⊢);omega)
     rw [hgy] at Ny ⊢
     have hyl:=Zao Ny
     have hgl2:g<gy:=by omega
     have hwg:w.heap.size<g:=by have:=(show w.heap.size+1≤g by omega);omega
     generalize wr.alloc (.cells #[.int .i64 y.frm,.int .i64 y.dst,.int .i64 y.depth,.bool y.guarded,.slice B1 y.guard.length d1] 112)=W1 at *
     refine Zcf 9 u2.ownBlock [8] (by kernel_rfl) rfl rfl ?_
     intro Wd hd hs
     have N0_d:=Zab N0 hd
     have Ng_d:=Zab Ng hd
     have Ny_d:=Zab Ny hd
     have HNd:=HN.step (w1:=Wd) (fun k _ hl=>hd.block k hl)
     have hgu:some g≠u2.ownBlock:=fun e=>by have:=((Zca HN.r2) _ e.symm).1;(try dsimp only at this);omega
     have HB_d:=HB.trans (hd.mono HB.size)
     refine head2 9 0 38 39 5 36 98 4 4 g (u:=u2) ⟨rfl,rfl⟩ (by kernel_rfl) ⟨rfl,rfl,rfl⟩ ⟨rfl,rfl,rfl⟩ rfl (show 38<68 by decide) (fun w1=>by go_simp) (fun w1 h=>by go_simp) (fun w1 hk=>hk.cell Ng_d hgu rfl) (Zbc.refl _ _) (fun _ _ _ d _ h=>by cases d <;> exact h) ?_
     refine Zbb (by simp only [Act.put,pkA,pkB,pkC];rfl) ?_
     refine head2 9 2 40 41 7 3 112 2 2 gy (u:=.int .i64 y.depth) ⟨rfl,rfl⟩ (by kernel_rfl) ⟨rfl,rfl,rfl⟩ ⟨rfl,rfl,rfl⟩ rfl (show 40<68 by decide) (fun w1=>by go_simp) (fun w1 h=>by go_simp) (fun w1 hk=>hk.cell Ny_d (fun e=>by have:=((Zca HN.r2) _ e.symm).1;(try dsimp only at this);omega) rfl) (Zbc.refl _ _) (fun _ _ _ d _ h=>by cases d <;> exact h) ?_
     refine Zbb (by simp only [Act.put,pkA,pkB,pkC];rfl) ?_
     refine Zdt 9 4 42 (fun v w1=>v=.agg #[.int .i64 y.depth,.slice none 0 0]) rfl (by decide) (by kernel_rfl) rfl rfl rfl Tryz.func115 (by kernel_rfl) rfl #[.int .i64 y.depth] (by (try simp only [List.map_toArray,List.map_cons,List.map_nil]);first | done | rfl) ((Ziy y.depth Wd).mono (fun e w9 h=>⟨⟨_,h.1,by rw [hdy];rfl⟩,h.2⟩)) (Zbc.refl _ _) nlr_ ?_
     rintro v w1 rfl hb1 hk1
     have hp:Own kBox w1 (fun k=>Wd.heap.size≤k) (Zbd y.depth) [.int .i64 y.depth,.slice none 0 0]:=Zsx (fun _=>0) (Zbq _ _ _ _)
     refine Zbb (by simp only [Act.put,pkA,pkB,pkC];rfl) ?_
     have HB_1:=HB_d.trans (hb1.mono HB_d.size)
     have hsz1:=hb1.size
     refine Zcl kBox (w0:=w) 9 5 39 42 43 44 45 5 36 109 98 4 4 68 g (u:=u2) (xs:=(x.ways.take (k)).map (fun y:Wy=>Zbd y.depth)) (fun k=>(fun k=>w.heap.size≤k∧k≠w.heap.size∧k≠g∧k≠gy) k∧((k<Wd.heap.size∧f k=4)∨Wd.heap.size≤k)) (fun k=>Wd.heap.size≤k) ⟨rfl,rfl,rfl,rfl⟩ (by kernel_rfl) ⟨rfl,rfl,rfl⟩ ⟨rfl,rfl,rfl⟩ ⟨rfl,rfl,rfl⟩ ⟨rfl,rfl,rfl⟩ rfl (by decide) rfl rfl (fun w1=>by go_simp <;> (constructor <;> rfl)) (fun w1=>by go_simp) Tryz.underlying36 iBox rfl (by decide) (by omega) (fun _=>by go_simp) hp ?aO ?aT ?aS ?aF HB_1 ?aL hk1 hb1.size Ng_d (show 4<10 by decide) hgu (fun _ _ _ d _ h=>by cases d <;> exact h) ?_
     (case aO=>exact Zae (Zaj (Zaf HNd.r2) hb1) (fun k hk=>by (try dsimp only at hk ⊢);omega))
     (case aT=>exact fun k hk=>by (try dsimp only at hk ⊢);omega)
     (case aS=>exact fun k hk=>by (try dsimp only at hk ⊢);omega)
     (case aF=>exact fun k hk=>by (try dsimp only at hk ⊢);omega)
     (case aL=>simp;omega)
     rintro B L9 d w2 vA vB-hR HB2 hgr hk2 -
     have HN_n:=(HNd.app_out hb1 hgr hR).step (w1:=w2.setCell ⟨g,4,none⟩ (.slice B L9 d)) (fun b_ hk _=>Below.heap_setCell w2 ⟨g,4,none⟩ (.slice B L9 d) b_ (by (try dsimp only at hk ⊢);omega))
     have HB_n:=Zak (j:=4) (v:=.slice B L9 d) HB2 (show w.heap.size≤g by omega)
     have Ng_n:=Zau ((hk2 g (Zao Ng_d) hgu).trans Ng_d) 4 (.slice B L9 d)
     have N0_n:=Zav (p:=⟨g,4,none⟩) ((hk2 _ (Zao N0_d) (fun e=>by have:=((Zca HN.r2) _ e.symm).1;(try dsimp only at this);omega)).trans N0_d) (show w.heap.size≠g by omega) (.slice B L9 d)
     have Ny_n:=Zav (p:=⟨g,4,none⟩) ((hk2 _ (Zao Ny_d) (fun e=>by have:=((Zca HN.r2) _ e.symm).1;(try dsimp only at this);omega)).trans Ny_d) (show gy≠g by omega) (.slice B L9 d)
     simp only [Act.put,pkA,pkB,pkC]
     rw [Zpv (fun y:Wy=>Zbd y.depth) hy] at HN_n
     clear HN HNd HB Ng N0 Ny
     have HN:NodR (w2.setCell ⟨g,4,none⟩ (.slice B L9 d)) (fun k=>w.heap.size≤k∧k≠w.heap.size∧k≠g∧k≠gy) ⟨false,b,0,x.cells.map (fun _=>Zbt),(x.ways.take (k+1)).map (fun y:Wy=>Zbd y.depth),(x.ways.take (k)).map (fun y:Wy=>Zbd y.depth),(x.ways.take (k)).map (fun _=>Zdr),(x.ways.take (k)).map (fun _=>Zez),List.replicate n 0,List.replicate n 0⟩ (lab Wd.heap.size f 4) (u1) (.slice B L9 d) (u3) (u4) (u5) (.slice B6 n d6) (.slice B7 n d7):=HN_n
     have HB:=HB_n
     have N0:=N0_n
     have Ny:=Ny_n
     have Ng:(w2.setCell ⟨g,4,none⟩ (.slice B L9 d)).heap[g]? = some (.cells #[.bool false,.int .i64 b,.int .i64 0,u1,.slice B L9 d,u3,u4,u5,.slice B6 n d6,.slice B7 n d7] 98 (0,0)):=Ng_n
     clear HN_n HB_n N0_n Ny_n Ng_n Ng_d N0_d Ny_d hb1 hk1 hp HB_d HB_1 hk2 hgr hR HB2 hgu hsz1
     generalize w2.setCell ⟨g,4,none⟩ (.slice B L9 d)=W2 at *
     generalize Value.slice B L9 d=v2 at *
     generalize lab Wd.heap.size f 4=f_ at *
     clear hd hs hgl hyl
     have hgl:=Zao Ng
     have hyl:=Zao Ny
     go_wp2_with (fail)
     refine Zcf 9 u3.ownBlock [8] (by kernel_rfl) rfl rfl ?_
     intro Wd hd hs
     have N0_d:=Zab N0 hd
     have Ng_d:=Zab Ng hd
     have Ny_d:=Zab Ny hd
     have HNd:=HN.step (w1:=Wd) (fun k _ hl=>hd.block k hl)
     have hgu:some g≠u3.ownBlock:=fun e=>by have:=((Zca HN.r3) _ e.symm).1;(try dsimp only at this);omega
     have HB_d:=HB.trans (hd.mono HB.size)
     refine head2 9 0 46 47 5 36 98 5 5 g (u:=u3) ⟨rfl,rfl⟩ (by kernel_rfl) ⟨rfl,rfl,rfl⟩ ⟨rfl,rfl,rfl⟩ rfl (show 46<68 by decide) (fun w1=>by go_simp) (fun w1 h=>by go_simp) (fun w1 hk=>hk.cell Ng_d hgu rfl) (Zbc.refl _ _) (fun _ _ _ d _ h=>by cases d <;> exact h) ?_
     refine Zbb (by simp only [Act.put,pkA,pkB,pkC];rfl) ?_
     refine head2 9 2 48 49 7 3 112 2 2 gy (u:=.int .i64 y.depth) ⟨rfl,rfl⟩ (by kernel_rfl) ⟨rfl,rfl,rfl⟩ ⟨rfl,rfl,rfl⟩ rfl (show 48<68 by decide) (fun w1=>by go_simp) (fun w1 h=>by go_simp) (fun w1 hk=>hk.cell Ny_d (fun e=>by have:=((Zca HN.r3) _ e.symm).1;(try dsimp only at this);omega) rfl) (Zbc.refl _ _) (fun _ _ _ d _ h=>by cases d <;> exact h) ?_
     refine Zbb (by simp only [Act.put,pkA,pkB,pkC];rfl) ?_
     refine Zdt 9 4 50 (fun v w1=>v=.agg #[.int .i64 y.depth,.slice none 0 0]) rfl (by decide) (by kernel_rfl) rfl rfl rfl Tryz.func115 (by kernel_rfl) rfl #[.int .i64 y.depth] (by (try simp only [List.map_toArray,List.map_cons,List.map_nil]);first | done | rfl) ((Ziy y.depth Wd).mono (fun e w9 h=>⟨⟨_,h.1,by rw [hdy];rfl⟩,h.2⟩)) (Zbc.refl _ _) nlr_ ?_
     rintro v w1 rfl hb1 hk1
     have hp:Own kBox w1 (fun k=>Wd.heap.size≤k) (Zbd y.depth) [.int .i64 y.depth,.slice none 0 0]:=Zsx (fun _=>0) (Zbq _ _ _ _)
     refine Zbb (by simp only [Act.put,pkA,pkB,pkC];rfl) ?_
     have HB_1:=HB_d.trans (hb1.mono HB_d.size)
     have hsz1:=hb1.size
     refine Zcl kBox (w0:=w) 9 5 47 50 51 52 53 5 36 109 98 5 5 68 g (u:=u3) (xs:=(x.ways.take (k)).map (fun y:Wy=>Zbd y.depth)) (fun k=>(fun k=>w.heap.size≤k∧k≠w.heap.size∧k≠g∧k≠gy) k∧((k<Wd.heap.size∧f_ k=5)∨Wd.heap.size≤k)) (fun k=>Wd.heap.size≤k) ⟨rfl,rfl,rfl,rfl⟩ (by kernel_rfl) ⟨rfl,rfl,rfl⟩ ⟨rfl,rfl,rfl⟩ ⟨rfl,rfl,rfl⟩ ⟨rfl,rfl,rfl⟩ rfl (by decide) rfl rfl (fun w1=>by go_simp <;> (constructor <;> rfl)) (fun w1=>by go_simp) Tryz.underlying36 iBox rfl (by decide) (by omega) (fun _=>by go_simp) hp ?aO ?aT ?aS ?aF HB_1 ?aL hk1 hb1.size Ng_d (show 5<10 by decide) hgu (fun _ _ _ d _ h=>by cases d <;> exact h) ?_
     (case aO=>exact Zae (Zaj (Zaf HNd.r3) hb1) (fun k hk=>by (try dsimp only at hk ⊢);omega))
     (case aT=>exact fun k hk=>by (try dsimp only at hk ⊢);omega)
     (case aS=>exact fun k hk=>by (try dsimp only at hk ⊢);omega)
     (case aF=>exact fun k hk=>by (try dsimp only at hk ⊢);omega)
     (case aL=>simp;omega)
     rintro B L9 d w2 vA vB-hR HB2 hgr hk2 -
     have HN_n:=(HNd.app_inn hb1 hgr hR).step (w1:=w2.setCell ⟨g,5,none⟩ (.slice B L9 d)) (fun b_ hk _=>Below.heap_setCell w2 ⟨g,5,none⟩ (.slice B L9 d) b_ (by (try dsimp only at hk ⊢);omega))
     have HB_n:=Zak (j:=5) (v:=.slice B L9 d) HB2 (show w.heap.size≤g by omega)
     have Ng_n:=Zau ((hk2 g (Zao Ng_d) hgu).trans Ng_d) 5 (.slice B L9 d)
     have N0_n:=Zav (p:=⟨g,5,none⟩) ((hk2 _ (Zao N0_d) (fun e=>by have:=((Zca HN.r3) _ e.symm).1;(try dsimp only at this);omega)).trans N0_d) (show w.heap.size≠g by omega) (.slice B L9 d)
     have Ny_n:=Zav (p:=⟨g,5,none⟩) ((hk2 _ (Zao Ny_d) (fun e=>by have:=((Zca HN.r3) _ e.symm).1;(try dsimp only at this);omega)).trans Ny_d) (show gy≠g by omega) (.slice B L9 d)
     simp only [Act.put,pkA,pkB,pkC]
     rw [Zpv (fun y:Wy=>Zbd y.depth) hy] at HN_n
     clear HN HNd HB Ng N0 Ny
     have HN:NodR (w2.setCell ⟨g,5,none⟩ (.slice B L9 d)) (fun k=>w.heap.size≤k∧k≠w.heap.size∧k≠g∧k≠gy) ⟨false,b,0,x.cells.map (fun _=>Zbt),(x.ways.take (k+1)).map (fun y:Wy=>Zbd y.depth),(x.ways.take (k+1)).map (fun y:Wy=>Zbd y.depth),(x.ways.take (k)).map (fun _=>Zdr),(x.ways.take (k)).map (fun _=>Zez),List.replicate n 0,List.replicate n 0⟩ (lab Wd.heap.size f_ 5) (u1) (v2) (.slice B L9 d) (u4) (u5) (.slice B6 n d6) (.slice B7 n d7):=HN_n
     have HB:=HB_n
     have N0:=N0_n
     have Ny:=Ny_n
     have Ng:(w2.setCell ⟨g,5,none⟩ (.slice B L9 d)).heap[g]? = some (.cells #[.bool false,.int .i64 b,.int .i64 0,u1,v2,.slice B L9 d,u4,u5,.slice B6 n d6,.slice B7 n d7] 98 (0,0)):=Ng_n
     clear HN_n HB_n N0_n Ny_n Ng_n Ng_d N0_d Ny_d hb1 hk1 hp HB_d HB_1 hk2 hgr hR HB2 hgu hsz1
     generalize w2.setCell ⟨g,5,none⟩ (.slice B L9 d)=W3 at *
     generalize Value.slice B L9 d=v3 at *
     generalize lab Wd.heap.size f_ 5=f__ at *
     clear hd hs hgl hyl
     have hgl:=Zao Ng
     have hyl:=Zao Ny
     go_wp2_with (fail)
     refine Zcf 7 u4.ownBlock [6] (by kernel_rfl) rfl rfl ?_
     intro Wd hd hs
     have N0_d:=Zab N0 hd
     have Ng_d:=Zab Ng hd
     have Ny_d:=Zab Ny hd
     have HNd:=HN.step (w1:=Wd) (fun k _ hl=>hd.block k hl)
     have hgu:some g≠u4.ownBlock:=fun e=>by have:=((Zca HN.r4) _ e.symm).1;(try dsimp only at this);omega
     have HB_d:=HB.trans (hd.mono HB.size)
     refine head2 7 0 54 55 5 93 98 6 6 g (u:=u4) ⟨rfl,rfl⟩ (by kernel_rfl) ⟨rfl,rfl,rfl⟩ ⟨rfl,rfl,rfl⟩ rfl (show 54<68 by decide) (fun w1=>by go_simp) (fun w1 h=>by go_simp) (fun w1 hk=>hk.cell Ng_d hgu rfl) (Zbc.refl _ _) (fun _ _ _ d _ h=>by cases d <;> exact h) ?_
     refine Zbb (by simp only [Act.put,pkA,pkB,pkC];rfl) ?_
     refine Zdt 7 2 56 (fun v w1=>v=.agg #[.int .i64 1,.int .i64 0,.int .i64 0,.int .i64 0]) rfl (by decide) (by kernel_rfl) rfl rfl rfl Tryz.func116 (by kernel_rfl) rfl #[.int .i64 1] (by (try simp only [List.map_toArray,List.map_cons,List.map_nil]);first | done | rfl) ((Zgn 1 Wd).mono (fun e w9 h=>⟨⟨_,h.1,rfl⟩,h.2⟩)) (Zbc.refl _ _) nlr_ ?_
     rintro v w1 rfl hb1 hk1
     have hp:=Zvx Zdr w1 (fun k=>Wd.heap.size≤k)
     refine Zbb (by simp only [Act.put,pkA,pkB,pkC];rfl) ?_
     have HB_1:=HB_d.trans (hb1.mono HB_d.size)
     have hsz1:=hb1.size
     refine Zcl Zhm (w0:=w) 7 3 55 56 57 58 59 5 93 167 98 6 6 68 g (u:=u4) (xs:=(x.ways.take (k)).map (fun _=>Zdr)) (fun k=>(fun k=>w.heap.size≤k∧k≠w.heap.size∧k≠g∧k≠gy) k∧((k<Wd.heap.size∧f__ k=6)∨Wd.heap.size≤k)) (fun k=>Wd.heap.size≤k) ⟨rfl,rfl,rfl,rfl⟩ (by kernel_rfl) ⟨rfl,rfl,rfl⟩ ⟨rfl,rfl,rfl⟩ ⟨rfl,rfl,rfl⟩ ⟨rfl,rfl,rfl⟩ rfl (by decide) rfl rfl (fun w1=>by go_simp <;> (constructor <;> rfl)) (fun w1=>by go_simp) Tryz.underlying93 Zyn rfl (by decide) (by omega) (fun _=>by go_simp) hp ?aO ?aT ?aS ?aF HB_1 ?aL hk1 hb1.size Ng_d (show 6<10 by decide) hgu (fun _ _ _ d _ h=>by cases d <;> exact h) ?_
     (case aO=>exact Zae (Zaj (Zaf HNd.r4) hb1) (fun k hk=>by (try dsimp only at hk ⊢);omega))
     (case aT=>exact fun k hk=>by (try dsimp only at hk ⊢);omega)
     (case aS=>exact fun k hk=>by (try dsimp only at hk ⊢);omega)
     (case aF=>exact fun k hk=>by (try dsimp only at hk ⊢);omega)
     (case aL=>simp;omega)
     rintro B L9 d w2 vA vB-hR HB2 hgr hk2 -
     have HN_n:=(HNd.app_outs hb1 hgr hR).step (w1:=w2.setCell ⟨g,6,none⟩ (.slice B L9 d)) (fun b_ hk _=>Below.heap_setCell w2 ⟨g,6,none⟩ (.slice B L9 d) b_ (by (try dsimp only at hk ⊢);omega))
     have HB_n:=Zak (j:=6) (v:=.slice B L9 d) HB2 (show w.heap.size≤g by omega)
     have Ng_n:=Zau ((hk2 g (Zao Ng_d) hgu).trans Ng_d) 6 (.slice B L9 d)
     have N0_n:=Zav (p:=⟨g,6,none⟩) ((hk2 _ (Zao N0_d) (fun e=>by have:=((Zca HN.r4) _ e.symm).1;(try dsimp only at this);omega)).trans N0_d) (show w.heap.size≠g by omega) (.slice B L9 d)
     have Ny_n:=Zav (p:=⟨g,6,none⟩) ((hk2 _ (Zao Ny_d) (fun e=>by have:=((Zca HN.r4) _ e.symm).1;(try dsimp only at this);omega)).trans Ny_d) (show gy≠g by omega) (.slice B L9 d)
     simp only [Act.put,pkA,pkB,pkC]
     rw [Zjt Zdr x.ways k hlt] at HN_n
     clear HN HNd HB Ng N0 Ny
     have HN:NodR (w2.setCell ⟨g,6,none⟩ (.slice B L9 d)) (fun k=>w.heap.size≤k∧k≠w.heap.size∧k≠g∧k≠gy) ⟨false,b,0,x.cells.map (fun _=>Zbt),(x.ways.take (k+1)).map (fun y:Wy=>Zbd y.depth),(x.ways.take (k+1)).map (fun y:Wy=>Zbd y.depth),(x.ways.take (k+1)).map (fun _=>Zdr),(x.ways.take (k)).map (fun _=>Zez),List.replicate n 0,List.replicate n 0⟩ (lab Wd.heap.size f__ 6) (u1) (v2) (v3) (.slice B L9 d) (u5) (.slice B6 n d6) (.slice B7 n d7):=HN_n
     have HB:=HB_n
     have N0:=N0_n
     have Ny:=Ny_n
     have Ng:(w2.setCell ⟨g,6,none⟩ (.slice B L9 d)).heap[g]? = some (.cells #[.bool false,.int .i64 b,.int .i64 0,u1,v2,v3,.slice B L9 d,u5,.slice B6 n d6,.slice B7 n d7] 98 (0,0)):=Ng_n
     clear HN_n HB_n N0_n Ny_n Ng_n Ng_d N0_d Ny_d hb1 hk1 hp HB_d HB_1 hk2 hgr hR HB2 hgu hsz1
     generalize w2.setCell ⟨g,6,none⟩ (.slice B L9 d)=W4 at *
     generalize Value.slice B L9 d=v4 at *
     generalize lab Wd.heap.size f__ 6=f___ at *
     clear hd hs hgl hyl
     have hgl:=Zao Ng
     have hyl:=Zao Ny
     obtain ⟨-,-,-,-,-,-,-,e7⟩:=cellsP8 Ng
     have hgu:some g≠u5.ownBlock:=fun e=>by have:=((Zca HN.r5) _ e.symm).1;(try dsimp only at this);omega
     go_wp2_with ((with_reducible refine Zfo (b:=.append) (xs:=#[.tmp 61,.tmp 63]) rfl ?_);at_builtin;(refine Zdg kInI (w0:=w) rfl (.tmp 61) (.tmp 63) 94 170 _ _ rfl Tryz.underlying94 iInI rfl (by decide) (by omega) (u5) ((x.ways.take k).map (fun _=>Zez)) Zez [.int .i64 0,.int .i64 0,.int .i64 0] (fun k=>(fun k=>w.heap.size≤k∧k≠w.heap.size∧k≠g∧k≠gy) k∧((k<W4.heap.size∧f___ k=7)∨W4.heap.size≤k)) (fun k=>W4.heap.size≤k) rfl rfl (Zxk Zez _ _) (Zae (Zaf HN.r5) (fun k hk=>by (try dsimp only at hk ⊢);omega)) (fun k hk=>by (try dsimp only at hk ⊢);omega) (fun k hk=>by (try dsimp only at hk ⊢);omega) (fun k hk=>by (try dsimp only at hk ⊢);omega) HB (by simp;omega) ?_);intro v1 w2 hR HB2 hgr hat;obtain ⟨B,d,rfl,-,-⟩:=Zbl hR;generalize ((x.ways.take k).map (fun _=>Zez)++[Zez]).length=L9 at *;have Ng_d:=Zch Ng hgr hgu;have N0_d:=Zch N0 hgr (fun e=>by have:=((Zca HN.r5) _ e.symm).1;(try dsimp only at this);omega);obtain ⟨-,-,-,-,-,-,-,e8⟩:=cellsP8 Ng_d;have f8:=Zad Ng_d 7)
     have HN_n:=(HN.app_ins brf_ hgr hR).step (w1:=w2.setCell ⟨g,7,none⟩ (.slice B L9 d)) (fun b_ hk _=>Below.heap_setCell w2 ⟨g,7,none⟩ (.slice B L9 d) b_ (by (try dsimp only at hk ⊢);omega))
     rw [Zjt Zez x.ways k hlt] at HN_n
     have HN_m:=HN_n.skip (T:=fun k=>w.heap.size≤k∧k≠w.heap.size∧k≠g) (fun _ _ _=>rfl) (fun k hk _=>⟨hk.1,hk.2.1,hk.2.2.1⟩)
     refine ⟨⟨k+1,_,_,_,_,_,by omega,rfl,Zau Ng_d 7 (.slice B L9 d),Zav (p:=⟨g,7,none⟩) N0_d (show w.heap.size≠g by omega) (.slice B L9 d),HN_m,Zak (j:=7) (v:=.slice B L9 d) HB2 (show w.heap.size≤g by omega)⟩, ?_⟩
     simp [intOf]
     omega
    ·have e:k=x.ways.length:=by omega
     subst e
     simp only [List.take_length] at HN
     obtain ⟨E1,L1,g1,rfl⟩:=Zba HN.r1
     obtain ⟨E2,L2,g2,rfl⟩:=Zba HN.r2
     obtain ⟨E3,L3,g3,rfl⟩:=Zba HN.r3
     obtain ⟨E4,L4,g4,rfl⟩:=Zba HN.r4
     obtain ⟨E5,L5,g5,rfl⟩:=Zba HN.r5
     go_wp2_with (refine Zen 98 5 4 67 g w.heap.size #[.bool false,.int .i64 b,.int .i64 0,.slice E1 L1 g1,.slice E2 L2 g2,.slice E3 L3 g3,.slice E4 L4 g4,.slice E5 L5 g5,.slice B6 n d6,.slice B7 n d7] #[.bool false,.int .i64 0,.int .i64 0,.slice none 0 0,.slice none 0 0,.slice none 0 0,.slice none 0 0,.slice none 0 0,.slice none 0 0,.slice none 0 0] 98 98 _ ⟨rfl,rfl,rfl⟩ ⟨rfl,rfl,rfl⟩ rfl rfl (by decide) (show 67<68 by decide) Ng N0 Tryz.underlying98 rfl (by kernel_rfl) rfl (by simp [Value.oneCell']) ?_;intro w9 N9 hk)
     refine bodyPost_ret (results_cell_row rfl _ _ w.heap.size 98 #[.bool false,.int .i64 b,.int .i64 0,.slice E1 L1 g1,.slice E2 L2 g2,.slice E3 L3 g3,.slice E4 L4 g4,.slice E5 L5 g5,.slice B6 n d6,.slice B7 n d7] (0,0) _ rfl N9 Tryz.underlying98 rfl (by kernel_rfl)) rfl ?_
     have hx:Zbm x b false=⟨false,b,0,x.cells.map (fun _=>Zbt),x.ways.map (fun y:Wy=>Zbd y.depth),x.ways.map (fun y:Wy=>Zbd y.depth),x.ways.map (fun _=>Zdr),x.ways.map (fun _=>Zez),List.replicate n 0,List.replicate n 0⟩:=by
      unfold Zbm
      rw [hn]
      rfl
     rw [hx]
     exact ⟨⟨_,rfl,Zbx (HN.step (fun b_ h hl=>hk.block b_ hl (fun e=>h.2.1 e))).own (fun k hk=>hk.1)⟩,HB.trans ⟨hk.os,hk.tape,hk.output,hk.size,fun b_ hb=>hk.block b_ (by have:=HB.size;omega) (fun e=>by omega)⟩⟩
end Go.Proofs.YtaeckoinpllpnaaGreat
