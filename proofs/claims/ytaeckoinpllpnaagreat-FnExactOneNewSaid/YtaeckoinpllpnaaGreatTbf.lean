/- Part 32 of the proof of its last text: this session's own texts, shortened and joined by a program of its own (wip/pack.py). -/
import Derived.Test.YtaeckoinpllpnaaGreatTaa
import Derived.Test.YtaeckoinpllpnaaGreatTbd
set_option linter.unusedVariables false
set_option linter.unusedSimpArgs false
set_option maxHeartbeats 16000000
set_option maxRecDepth 100000
namespace Go.Proofs.YtaeckoinpllpnaaGreat
open Go.RowKit Go.Proofs.YtaeckoinpllpnaaGreatW.PrintWords Go.Proofs.YtaeckoinpllpnaaGreatW.PrintLast
theorem Zsp (x:Pln) (n:Nat) (hx:Sane x n) (hok:Zcz x=true) (hsm:Zxr (Zee x)) (ws:List Value) (w:World) (hW:allK w (Zee x) kWld ws) :
  Calls Tryz.prog 17 #[.agg ws.toArray] w fun e w'=>(∃ cs:List Value,e=.returned (.agg cs.toArray)∧Own kOne w' (fun k=>w.heap.size≤k) (Zun x) cs)∧Below w.heap.size w w':=by
 have hxx:=hx
 have hWW:=hW
 obtain ⟨B1,d1,B2,d2,B3,d3,B4,d4,B5,d5,B6,d6,B7,d7,rfl,-,-,-,-⟩:=Zpx hx.hn hW
 have qO:=fun (w1:World) (h:Below w.heap.size w w1)=>Zsn x n hxx hok _ w1 (Zai h hWW)
 have qC:=fun (w1:World) (h:Below w.heap.size w w1)=>Zpo (Zee x) _ w1 (Zai h hWW) hsm
 obtain ⟨W0,eW,hb0,Np,Nr⟩:=new2 w (.cells #[.int .i64 x.nodes,.int .i64 x.secret,.int .i64 x.fuel,.slice B1 x.cells.length d1,.slice B2 x.ways.length d2,.slice B3 x.slots.length d3,.slice B4 x.turns.length d4,.slice B5 n d5,.int .i64 0,.slice B6 0 d6,.slice B7 x.cells.length d7] 56) (.cells #[.int .i64 0,.int .i64 0,.int .i64 0,.slice none 0 0,.slice none 0 0,.slice none 0 0,.slice none 0 0,.slice none 0 0,.slice none 0 0,.slice none 0 0,.slice none 0 0,.slice none 0 0,.int .i64 0,.slice none 0 0] 40)
 go_enter Tryz.func17,Tryz.ntmps17
 go_upto_region 1 with (fail)
 refine wp_at eW ?_
 clear eW
 obtain ⟨p0,p1,p2,p3,p4,p5,p6,p7,p8,p9,p10⟩:=cellsP11 Np
 go_upto_region 3 with (go_at_call 52;with_reducible refine (qO _ hb0).mono ?_;rintro e w2 ⟨rfl,hb7⟩;have hb1:=hb0.trans (hb7.mono hb0.size);have Np1:=Zab Np hb7;have Nr1:=Zab Nr hb7;clear p0 p1 p2 p3 p4 p5 p6 p7 p8 p9 p10;obtain ⟨p0,p1,p2,p3,p4,p5,p6,p7,p8,p9,p10⟩:=cellsP11 Np1)
 have hWs:w.heap.size+1<w2.heap.size:=Zao Nr1
 go_upto_region 4 with (go_at_call 53;with_reducible refine (qC _ hb1).mono ?_;rintro e w3 ⟨⟨cs1,rfl,hO1⟩,hb8⟩;have hb2:=hb1.trans (hb8.mono hb1.size);have Nr2:=Zab Nr1 hb8;clear p0 p1 p2 p3 p4 p5 p6 p7 p8 p9 p10;obtain ⟨u1,u2,u3,u4,u5,u6,u7,ff,rfl,i1,i2,i3,i4,i5,i6,i7⟩:=Zrk hxx.hn hO1;obtain ⟨P1,q1,rfl,-,rC⟩:=Zbl i1;obtain ⟨P2,q2,rfl,-,rY⟩:=Zbl i2;obtain ⟨P3,q3,rfl,-,-⟩:=Zbl i3;obtain ⟨P4,q4,rfl,-,-⟩:=Zbl i4;obtain ⟨P6,q6,rfl,-,-⟩:=Zbl i6;obtain ⟨P7,q7,rfl,-,-⟩:=Zbl i7;obtain ⟨B9,d9,L,rfl,hL⟩:=Zte i5;try simp only [List.length_replicate,List.length_nil] at i5 i6 i7 hL ⊢)
 obtain ⟨W3,eW,hb3,N3⟩:=new1 w3 (.cells #[.int .i64 x.nodes,.int .i64 x.secret,.int .i64 x.fuel,.slice P1 x.cells.length q1,.slice P2 x.ways.length q2,.slice P3 x.slots.length q3,.slice P4 x.turns.length q4,.slice B9 n d9,.int .i64 0,.slice P6 0 q6,.slice P7 x.cells.length q7] 56)
 refine wp_at eW ?_
 clear eW
 have hs8:=hb8.size

 obtain ⟨p0,p1,p2,p3,p4,p5,p6⟩:=cellsP7 N3
 go_upto_region 5 with (fail)
 clear p0 p1 p2 p3 p4 p5 p6
 change Code.wp _ _ _ _ (W3.alloc (.cells #[.int .i64 x.nodes,.int .i64 x.secret,.int .i64 x.fuel,.slice P1 x.cells.length q1,.slice P2 x.ways.length q2,.slice P3 x.slots.length q3,.slice P4 x.turns.length q4] 33))
 have hb4:Below W3.heap.size W3 (W3.alloc (.cells #[.int .i64 x.nodes,.int .i64 x.secret,.int .i64 x.fuel,.slice P1 x.cells.length q1,.slice P2 x.ways.length q2,.slice P3 x.slots.length q3,.slice P4 x.turns.length q4] 33)):=(brf_).alloc nlr_ _
 have N4:=Zas W3 (.cells #[.int .i64 x.nodes,.int .i64 x.secret,.int .i64 x.fuel,.slice P1 x.cells.length q1,.slice P2 x.ways.length q2,.slice P3 x.slots.length q3,.slice P4 x.turns.length q4] 33)
 have hl3:=Zao N3
 replace N3:=Zab N3 hb4
 have hl4:(W3.alloc (.cells #[.int .i64 x.nodes,.int .i64 x.secret,.int .i64 x.fuel,.slice P1 x.cells.length q1,.slice P2 x.ways.length q2,.slice P3 x.slots.length q3,.slice P4 x.turns.length q4] 33)).heap.size=W3.heap.size+1:=by simp
 replace hb4:=hb3.trans (hb4.mono hb3.size);clear hb3
 generalize W3.alloc (.cells #[.int .i64 x.nodes,.int .i64 x.secret,.int .i64 x.fuel,.slice P1 x.cells.length q1,.slice P2 x.ways.length q2,.slice P3 x.slots.length q3,.slice P4 x.turns.length q4] 33)=W at *
 replace hl4:W3.heap.size<W.heap.size:=by omega
 replace i1:=Zaj (Zaf i1) hb4
 replace i2:=Zaj (Zaf i2) hb4
 replace i3:=Zaj (Zaf i3) hb4
 replace i4:=Zaj (Zaf i4) hb4
 replace i5:=Zaj (Zaf i5) hb4
 replace i7:=Zaj (Zaf i7) hb4
 replace rC:=Zac rC hb4;replace rY:=Zac rY hb4
 have hLW:=hb4.size
 have hbW:Below w.heap.size w W:=hb2.trans (hb4.mono hb2.size)
 have NrW:=Zab Nr2 hb4
 obtain ⟨p0,p1,p2,p3,p4,p5,p6⟩:=cellsP7 N4;obtain ⟨-,-,-,-,-,-,-,-,p8,-,p10⟩:=cellsP11 N3
 go_upto_region 6 with (fail)
 clear p0 p1 p2 p3 p4 p5 p6 p8 p10
 obtain ⟨w9,eW,hb5,N5⟩:=new1 W (.cells #[.int .i64 x.nodes,.int .i64 x.secret,.int .i64 x.fuel,.slice P1 x.cells.length q1,.slice P2 x.ways.length q2,.slice P3 x.slots.length q3,.slice P4 x.turns.length q4,.slice none 0 0,.slice none 0 0,.slice none 0 0,.slice none 0 0,.slice none 0 0,.int .i64 0,.slice P7 x.cells.length q7] 40)
 refine wp_at eW ?_
 clear eW

 generalize hgW:W.heap.size=g at N5 ⊢
 replace hgW:W.heap.size≤g:=by omega
 have hT2:∃ T2:Nat→Nat→Prop,T2=(fun (k b:Nat)=>((w2.heap.size≤b∧ff b=7)∧b<w3.heap.size)∧L b=((Zel x k).toNat,3,k)):=⟨_,rfl⟩
 have hT3:∃ T3:Nat→Nat→Prop,T3=(fun (k b:Nat)=>((w2.heap.size≤b∧ff b=7)∧b<w3.heap.size)∧L b=((begins x k).toNat,4,k)):=⟨_,rfl⟩
 have hT4:∃ T4:Nat→Nat→Prop,T4=(fun (k b:Nat)=>((w2.heap.size≤b∧ff b=7)∧b<w3.heap.size)∧L b=((ends x k).toNat,5,k)):=⟨_,rfl⟩
 obtain ⟨T2,hT2⟩:=hT2
 obtain ⟨T3,hT3⟩:=hT3
 obtain ⟨T4,hT4⟩:=hT4
 have hf0:∃ f0:Nat→Nat,f0=(fun b=>if ff b=7 then (if (L b).2.1=3 then 2 else if (L b).2.1=4 then 3 else 4) else if ff b=10 then 6 else 0):=⟨_,rfl⟩
 obtain ⟨f0,hf0⟩:=hf0
 have hfp:∀ k,3≤ff k→ff k≤6→f0 k=0:=by
  intro k y2 y3
  rw [hf0]
  dsimp only
  rw [if_neg (by omega),if_neg (by omega)]
 have hfs:∀ k,ff k=10→f0 k=6:=by
  intro k y2
  rw [hf0]
  simp [y2]
 have ht2:∀ (k b:Nat),T2 k b→w2.heap.size≤b∧b<W.heap.size∧f0 b=2:=by
  intro k b hb
  rw [hT2] at hb
  obtain ⟨⟨⟨y1,y2⟩,y3⟩,y4⟩:=hb
  refine ⟨y1,by omega, ?_⟩
  rw [hf0]
  simp [y2,y4]
 have hd2:∀ (j k b:Nat),T2 k b→T2 j b→j=k:=by
  intro j k b y1 y2
  rw [hT2] at y1 y2
  have e:=y1.2.symm.trans y2.2
  simp only [Prod.mk.injEq] at e
  exact e.2.2.symm
 have ht3:∀ (k b:Nat),T3 k b→w2.heap.size≤b∧b<W.heap.size∧f0 b=3:=by
  intro k b hb
  rw [hT3] at hb
  obtain ⟨⟨⟨y1,y2⟩,y3⟩,y4⟩:=hb
  refine ⟨y1,by omega, ?_⟩
  rw [hf0]
  simp [y2,y4]
 have hd3:∀ (j k b:Nat),T3 k b→T3 j b→j=k:=by
  intro j k b y1 y2
  rw [hT3] at y1 y2
  have e:=y1.2.symm.trans y2.2
  simp only [Prod.mk.injEq] at e
  exact e.2.2.symm
 have ht4:∀ (k b:Nat),T4 k b→w2.heap.size≤b∧b<W.heap.size∧f0 b=4:=by
  intro k b hb
  rw [hT4] at hb
  obtain ⟨⟨⟨y1,y2⟩,y3⟩,y4⟩:=hb
  refine ⟨y1,by omega, ?_⟩
  rw [hf0]
  simp [y2,y4]
 have hd4:∀ (j k b:Nat),T4 k b→T4 j b→j=k:=by
  intro j k b y1 y2
  rw [hT4] at y1 y2
  have e:=y1.2.symm.trans y2.2
  simp only [Prod.mk.injEq] at e
  exact e.2.2.symm
 have HK:OnK w W (fun k=>w.heap.size≤k∧k≠w.heap.size+1∧k≠g) g f0 T2 T3 T4:=⟨hbW,hgW,fun k h1 h2=>⟨by omega,by omega,h2⟩,fun h=>h.2.2 rfl,fun k h=>h.1,fun k b h=>⟨⟨by have:=ht2 k b h;omega,by have:=ht2 k b h;omega,by have:=ht2 k b h;omega⟩,(ht2 k b h).2⟩,fun k b h=>⟨⟨by have:=ht3 k b h;omega,by have:=ht3 k b h;omega,by have:=ht3 k b h;omega⟩,(ht3 k b h).2⟩,fun k b h=>⟨⟨by have:=ht4 k b h;omega,by have:=ht4 k b h;omega,by have:=ht4 k b h;omega⟩,(ht4 k b h).2⟩,hd2,hd3,hd4⟩
 have HS:OnS w W (fun k=>w.heap.size≤k∧k≠w.heap.size+1∧k≠g) g f0 T2 T3 T4 x (.int .i64 x.nodes) (.int .i64 x.secret) (.int .i64 x.fuel) (.slice P1 x.cells.length q1) (.slice P2 x.ways.length q2) (.slice P3 x.slots.length q3) (.slice P4 x.turns.length q4) (.slice P7 x.cells.length q7) 0 0 0 0 0 (.slice none 0 0) (.slice none 0 0) (.slice none 0 0) (.slice none 0 0) (.slice none 0 0) f0 w9:=by
  refine ⟨N5,⟨Zui ff (Zae (Zaj i1 hb5) (fun k hk=>⟨⟨(by have:=hk.1.1;have:=hk.2;exact ⟨by omega,by omega,by omega⟩),hfp k (by have:=hk.1.2;omega) (by have:=hk.1.2;omega)⟩,hk.1.2⟩)) (Zae (Zaj i2 hb5) (fun k hk=>⟨⟨(by have:=hk.1.1;have:=hk.2;exact ⟨by omega,by omega,by omega⟩),hfp k (by have:=hk.1.2;omega) (by have:=hk.1.2;omega)⟩,hk.1.2⟩)) (Zae (Zaj i3 hb5) (fun k hk=>⟨⟨(by have:=hk.1.1;have:=hk.2;exact ⟨by omega,by omega,by omega⟩),hfp k (by have:=hk.1.2;omega) (by have:=hk.1.2;omega)⟩,hk.1.2⟩)) (Zae (Zaj i4 hb5) (fun k hk=>⟨⟨(by have:=hk.1.1;have:=hk.2;exact ⟨by omega,by omega,by omega⟩),hfp k (by have:=hk.1.2;omega) (by have:=hk.1.2;omega)⟩,hk.1.2⟩)),Zbq _ _ _ _,Zbq _ _ _ _,Zbq _ _ _ _,Zbq _ _ _ _,Zbq _ _ _ _,Zae (Zaj i7 hb5) (fun k hk=>⟨(by have:=hk.1.1;have:=hk.2;exact ⟨by omega,by omega,by omega⟩),hfs k hk.1.2⟩),trivial,Zxn _ _ _,pcRw _ _ _ _,Ztz _ _ _ _ _ _,Ztz _ _ _ _ _ _,Ztz _ _ _ _ _ _,pcRw _ _ _ _,pcRw _ _ _ _,Zet⟩,hb5,hbW.trans (hb5.mono hbW.size),fun _ _=>rfl, ?_, ?_, ?_, ?_, ?_⟩
  iterate 5 exact fun q hq=>by cases hq
 replace hL:=hL
 have HX:=Zrj (And.intro rC (And.intro rY (And.intro hL (And.intro hT2 (And.intro hT3 hT4)))))
 have HB4:=Zrj hb4
 clear rC rY hL hT2 hT3 hT4 ht2 ht3 ht4 hd2 hd3 hd4 hf0 hfp hfs i1 i2 i3 i4 i5 i6 i7 hok hO1 hb4 hb5 N5 Np Nr Nr1 Nr2 hb0 hb1 hb2 hb7 hb8 qO qC hWW hsm
 have hn4:=hxx.n4;have hc8:=hxx.cel;have hw10:=hxx.way
 obtain ⟨-,-,-,-,-,-,-,h0w⟩:=cellsP8 (Zab N3 HS.hb)
 go_wp2
 clear h0w
 go_loopw [6] (fun i wr=>∃ (k:Nat) (u1:Value) (f:Nat→Nat),k≤n∧i=.int .i64 k∧OnS w W (fun k=>w.heap.size≤k∧k≠w.heap.size+1∧k≠g) g f0 T2 T3 T4 x (.int .i64 x.nodes) (.int .i64 x.secret) (.int .i64 x.fuel) (.slice P1 x.cells.length q1) (.slice P2 x.ways.length q2) (.slice P3 x.slots.length q3) (.slice P4 x.turns.length q4) (.slice P7 x.cells.length q7) k 0 0 0 0 u1 (.slice none 0 0) (.slice none 0 0) (.slice none 0 0) (.slice none 0 0) f wr) (fun i _=>n-(intOf i).toNat)
 case atStart=>exact ⟨0,_,_,Nat.zero_le _,rfl,HS⟩
 case round =>
  clear HS
  obtain ⟨k,u1,f,hk,rfl,HS⟩:=hrel
  have hW9:=HS.hb;have hsW:=hW9.size;have hgl:=Zao HS.ng
  have N3r:=Zab N3 hW9
  obtain ⟨-,-,-,-,-,-,-,h0w⟩:=cellsP8 N3r
  by_cases hlt:k<n
  ·obtain ⟨gN,v3,v4,v5,eB,hgN,q0,q3,q4,q5,-,-,-⟩:=HX.out.2.2.1 k (Zbm x 1 true) (by rw [List.getElem?_replicate,if_pos hlt])
   subst eB
   replace q0:=Zaa HB4.out q0
   replace hgN:gN<W.heap.size:=by omega
   have gN2:=HS.w1 hgN
   go_upto_region 9 with (fail)
   clear h0w
   have gg2:=HS.g1 HK;have g32:=HS.w1 (q:=w3.heap.size) (by omega);have g42:=HS.w1 (q:=W3.heap.size) (by omega)
   refine Zcf 12 u1.ownBlock [11] (by kernel_rfl) rfl rfl ?_
   intro Wd hd hs'
   replace HS:=HS.below hd;have Ng:=HS.ng;have N3d:=Zab N3 HS.hb;have N4d:=Zab N4 HS.hb
   replace q0:=Zaa HS.hb q0
   refine head2 12 0 30 31 5 34 40 1 7 g (u:=u1) ⟨rfl,rfl⟩ (by kernel_rfl) ⟨rfl,rfl,rfl⟩ ⟨rfl,rfl,rfl⟩ rfl (show 30<129 by decide) (fun w1=>by go_simp) (fun w1 h=>by go_simp) (fun w1 hk=>hk.cell Ng gg2 rfl) (Zbc.refl _ _) (fun _ _ _ d _ h=>by cases d <;> exact h) ?_
   refine Zbb (by simp only [Act.put,pkA,pkB,pkC];rfl) ?_
   refine head2 12 2 32 33 3 53 56 1 7 w3.heap.size (u:=.slice (some ⟨gN,0,none⟩) n d9) ⟨rfl,rfl⟩ (by kernel_rfl) ⟨rfl,rfl,rfl⟩ ⟨rfl,rfl,rfl⟩ rfl (show 32<129 by decide) (fun w1=>by go_simp) (fun w1 h=>by go_simp) (fun w1 hk=>hk.cell N3d g32 rfl) (Zbc.refl _ _) (fun _ _ _ d _ h=>by cases d <;> exact h) ?_
   refine Zbb (by simp only [Act.put,pkA,pkB,pkC];rfl) ?_
   refine mv1 12 4 34 6 rfl (by kernel_rfl) ⟨rfl,rfl,rfl⟩ rfl (fun _ _ _ d _ h=>by cases d <;> exact h) ?_
   refine Zbb (by simp only [Act.put,pkA,pkB,pkC];rfl) ?_
   refine Zap (i:=5) (N:=some 35) (v:=.pointer (some ((⟨gN,0,none⟩:Addr).add (k*10)))) (upB 12 6) rfl rfl (by kernel_rfl) (fun _ _ _ h=>h) (Or.inl ⟨by rfl,fun w1=>by go_simp⟩) (by simp only [Act.put,pkA,pkB,pkC];rfl) ?_
   refine Zap (i:=6) (N:=some 36) (v:=.pointer (some ⟨gN,k*10,none⟩)) (upB 12 7) rfl rfl (by kernel_rfl) (fun _ _ _ h=>h) (Or.inl ⟨by rfl,fun w1=>by go_simp⟩) (by simp only [Act.put,pkA,pkB,pkC];rfl) ?_
   refine Zbz (i:=7) (N:=some 37) (v:=.bool true) (upB 12 8) rfl rfl (by kernel_rfl) (fun _ _ _ h=>h) (Or.inl ⟨by rfl,fun w1 hk=>by have y:=hk.at_ q0 gN2;simp only [Zbm] at y;go_simp⟩) (Zbc.refl _ _) (by simp only [Act.put,pkA,pkB,pkC];rfl) ?_
   refine Zcl Zgk (w0:=w) 12 8 31 37 38 39 40 5 34 4 40 1 7 129 g (u:=u1) (p:=true) (cs:=[.bool true]) _ (fun _=>False) ⟨rfl,rfl,rfl,rfl⟩ (by kernel_rfl) ⟨rfl,rfl,rfl⟩ ⟨rfl,rfl,rfl⟩ ⟨rfl,rfl,rfl⟩ ⟨rfl,rfl,rfl⟩ rfl (by decide) rfl rfl (fun w1=>by go_simp <;> (constructor <;> rfl)) (fun w1=>by go_simp) Tryz.underlying34 Zzz rfl (by decide) (by omega) (fun _=>by go_simp) ?hp (HS.ho1) (fun _ h=>h.elim) (fun b hb=>HK.hSw b hb.1) (HS.hfr1 HK (brf_)) HS.hB (by simp;omega) (Zbc.refl _ _) nlr_ Ng (show 7<14 by decide) gg2 (fun _ _ _ d _ h=>by cases d <;> exact h) ?_
   case hp =>
    exact Ztm _ _ _
   rintro B9_ L9 d w5 vA vB-hR HB3 hgr hk3 hat
   have HS3:=HS.app1 HK brf_ hgr HB3 hR hat
   simp only [Act.put,pkA,pkB,pkC]
   clear HS hd Ng N3d N4d q0 q3 q4 q5 hgr hR hk3 hat HB3 gg2 g32 g42 gN2
   go_wp2
   refine ⟨⟨k+1,_,_,by omega,rfl,HS3⟩, ?_⟩
   simp [intOf]
   omega
  ·have e:n=k:=by omega
   subst e
   obtain ⟨-,-,-,h0p⟩:=cellsP4 (Zab N4 hW9)
   go_wp2
   clear h0p h0w hW9 N3r hsW hgl hlt hk
   go_loopw [7] (fun i wr=>∃ (k:Nat) (u2:Value) (f:Nat→Nat),k≤x.cells.length∧i=.int .i64 k∧OnS w W (fun k=>w.heap.size≤k∧k≠w.heap.size+1∧k≠g) g f0 T2 T3 T4 x (.int .i64 x.nodes) (.int .i64 x.secret) (.int .i64 x.fuel) (.slice P1 x.cells.length q1) (.slice P2 x.ways.length q2) (.slice P3 x.slots.length q3) (.slice P4 x.turns.length q4) (.slice P7 x.cells.length q7) n k 0 0 0 u1 u2 (.slice none 0 0) (.slice none 0 0) (.slice none 0 0) f wr) (fun i _=>x.cells.length-(intOf i).toNat)
   case atStart=>exact ⟨0,_,_,Nat.zero_le _,rfl,HS⟩
   case round =>
    clear HS f
    obtain ⟨k,u2,f,hk,rfl,HS⟩:=hrel
    have hW9:=HS.hb;have hsW:=hW9.size;have hgl:=Zao HS.ng
    obtain ⟨-,-,-,h0p⟩:=cellsP4 (Zab N4 hW9)
    by_cases hlt:k<x.cells.length
    ·obtain ⟨z,hz9⟩:=Zar x.cells hlt
     obtain ⟨m,hm,hmn⟩:∃ m:Nat,z.node=(m:Int)∧m<n:=⟨z.node.toNat,by have:=hxx.nod k z hz9;omega,by have:=hxx.nod k z hz9;omega⟩
     have hnk:(Zel x k).toNat=m:=by rw [Zdl (c:=(k:Int)) (z:=z) (by simpa using hz9),hm];simp
     obtain ⟨ad,cs0,eA,hk0,zc,-⟩:=Zce HX.out.1 hz9
     obtain ⟨A1,c1_,rfl,-,-⟩:=Zxb hk0
     replace zc:W.cell? (ad.add (k*5))=some (.int .i64 (m:Int)):=by rw [← hm];exact zc _ rfl
     subst eA
     have gz2:=HS.w2 (World.block_lt_of_cell? _ _ zc)
     obtain ⟨gN,v3,v4,v5,eB,hgN_,-,qq3,qq4,qq5,Pa,Pb,Pc⟩:=HX.out.2.2.1 m (Zbm x 1 true) (by rw [List.getElem?_replicate,if_pos hmn])
     obtain ⟨gc,dc,cs,rfl,hgc,hcl,hcc,hcw⟩:=Zig (n:=x.cells.length) Pa (by simp [Zbm]) (show _[k]? = some Zbt from by simp [Zbm,hlt])
     subst eB
     obtain ⟨w1_,w2_,w3_,fc,rfl,-,-,-⟩:=Zfz hcw
     replace hcw:=Zbj hcw HB4.out;replace qq3:=Zaa HB4.out qq3
     have gN2:=HS.w2 (show gN<W.heap.size by omega);have gc2:=HS.w2 (show gc<W.heap.size by omega)
     go_upto_region 13 with (fail)
     clear h0p
     have gg2:=HS.g2 HK;have g32:=HS.w2 (q:=w3.heap.size) (by omega);have g42:=HS.w2 (q:=W3.heap.size) (by omega)
     refine Zcf 20 u2.ownBlock [19] (by kernel_rfl) rfl rfl ?_
     intro Wd hd hs'
     replace HS:=HS.below hd;have Ng:=HS.ng;have N3d:=Zab N3 HS.hb;have N4d:=Zab N4 HS.hb
     replace zc:=Zaa HS.hb zc
     replace qq3:=Zaa HS.hb qq3
     have c0:Wd.cell? ⟨gc,k*5,none⟩=some (.int .i64 Zbt.pc):=Zaa HS.hb (Zaa HB4.out (hcc 0 _ rfl))
     have c1:Wd.cell? ⟨gc,k*5+1,none⟩=some (w1_):=Zaa HS.hb (Zaa HB4.out (hcc 1 _ rfl))
     have c2:Wd.cell? ⟨gc,k*5+2,none⟩=some (w2_):=Zaa HS.hb (Zaa HB4.out (hcc 2 _ rfl))
     have c3:Wd.cell? ⟨gc,k*5+3,none⟩=some (.int .i64 Zbt.halt):=Zaa HS.hb (Zaa HB4.out (hcc 3 _ rfl))
     have c4:Wd.cell? ⟨gc,k*5+4,none⟩=some (w3_):=Zaa HS.hb (Zaa HB4.out (hcc 4 _ rfl))
     replace hcw:=Zbx (Zbj (Zcj hcw) HS.hb) (fun b hb=>hb.1)
     refine head2 20 0 48 49 5 35 40 2 8 g (u:=u2) ⟨rfl,rfl⟩ (by kernel_rfl) ⟨rfl,rfl,rfl⟩ ⟨rfl,rfl,rfl⟩ rfl (show 48<129 by decide) (fun w1=>by go_simp) (fun w1 h=>by go_simp) (fun w1 hk=>hk.cell Ng gg2 rfl) (Zbc.refl _ _) (fun _ _ _ d _ h=>by cases d <;> exact h) ?_
     refine Zbb (by simp only [Act.put,pkA,pkB,pkC];rfl) ?_
     refine head2 20 2 50 51 3 53 56 1 7 w3.heap.size (u:=.slice (some ⟨gN,0,none⟩) n d9) ⟨rfl,rfl⟩ (by kernel_rfl) ⟨rfl,rfl,rfl⟩ ⟨rfl,rfl,rfl⟩ rfl (show 50<129 by decide) (fun w1=>by go_simp) (fun w1 h=>by go_simp) (fun w1 hk=>hk.cell N3d g32 rfl) (Zbc.refl _ _) (fun _ _ _ d _ h=>by cases d <;> exact h) ?_
     refine Zbb (by simp only [Act.put,pkA,pkB,pkC];rfl) ?_
     refine head2 20 4 52 53 4 29 33 3 3 W3.heap.size (u:=.slice (some ad) x.cells.length q1) ⟨rfl,rfl⟩ (by kernel_rfl) ⟨rfl,rfl,rfl⟩ ⟨rfl,rfl,rfl⟩ rfl (show 52<129 by decide) (fun w1=>by go_simp) (fun w1 h=>by go_simp) (fun w1 hk=>hk.cell N4d g42 rfl) (Zbc.refl _ _) (fun _ _ _ d _ h=>by cases d <;> exact h) ?_
     refine Zbb (by simp only [Act.put,pkA,pkB,pkC];rfl) ?_
     refine mv1 20 6 54 7 rfl (by kernel_rfl) ⟨rfl,rfl,rfl⟩ rfl (fun _ _ _ d _ h=>by cases d <;> exact h) ?_
     refine Zbb (by simp only [Act.put,pkA,pkB,pkC];rfl) ?_
     refine Zap (i:=7) (N:=some 55) (v:=.pointer (some (ad.add (k*5)))) (upB 20 8) rfl rfl (by kernel_rfl) (fun _ _ _ h=>h) (Or.inl ⟨by rfl,fun w1=>by go_simp⟩) (by simp only [Act.put,pkA,pkB,pkC];rfl) ?_
     refine Zap (i:=8) (N:=some 56) (v:=.pointer (some (ad.add (k*5)))) (upB 20 9) rfl rfl (by kernel_rfl) (fun _ _ _ h=>h) (Or.inl ⟨by rfl,fun w1=>by go_simp⟩) (by simp only [Act.put,pkA,pkB,pkC];rfl) ?_
     refine Zbz (i:=9) (N:=some 57) (v:=.int .i64 (m:Int)) (upB 20 10) rfl rfl (by kernel_rfl) (fun _ _ _ h=>h) (Or.inl ⟨by rfl,fun w1 hk=>by have yy:=hk.at_ zc gz2;go_simp⟩) (Zbc.refl _ _) (by simp only [Act.put,pkA,pkB,pkC];rfl) ?_
     refine Zap (i:=10) (N:=some 58) (v:=.pointer (some ((⟨gN,0,none⟩:Addr).add (m*10)))) (upB 20 11) rfl rfl (by kernel_rfl) (fun _ _ _ h=>h) (Or.inl ⟨by rfl,fun w1=>by go_simp⟩) (by simp only [Act.put,pkA,pkB,pkC];rfl) ?_
     refine Zap (i:=11) (N:=some 59) (v:=.pointer (some ⟨gN,m*10+3,none⟩)) (upB 20 12) rfl rfl (by kernel_rfl) (fun _ _ _ h=>h) (Or.inl ⟨by rfl,fun w1=>by go_simp⟩) (by simp only [Act.put,pkA,pkB,pkC];rfl) ?_
     refine Zbz (i:=12) (N:=some 60) (v:=.slice (some ⟨gc,0,none⟩) x.cells.length dc) (upB 20 13) rfl rfl (by kernel_rfl) (fun _ _ _ h=>h) (Or.inl ⟨by rfl,fun w1 hk=>by have yy:=hk.at_ qq3 gN2;go_simp⟩) (Zbc.refl _ _) (by simp only [Act.put,pkA,pkB,pkC];rfl) ?_
     refine mv1 20 13 61 7 rfl (by kernel_rfl) ⟨rfl,rfl,rfl⟩ rfl (fun _ _ _ d _ h=>by cases d <;> exact h) ?_
     refine Zbb (by simp only [Act.put,pkA,pkB,pkC];rfl) ?_
     refine Zap (i:=14) (N:=some 62) (v:=.pointer (some ((⟨gc,0,none⟩:Addr).add (k*5)))) (upB 20 15) rfl rfl (by kernel_rfl) (fun _ _ _ h=>h) (Or.inl ⟨by rfl,fun w1=>by go_simp⟩) (by simp only [Act.put,pkA,pkB,pkC];rfl) ?_
     refine Zbz (i:=15) (N:=some 63) (v:=.agg #[.int .i64 Zbt.pc,w1_,w2_,.int .i64 Zbt.halt,w3_]) (upB 20 16) rfl rfl (by kernel_rfl) (fun _ _ _ h=>h) (Or.inl ⟨by rfl,fun w1 hk=>by have y0:=hk.at_ c0 gc2;have y1:=hk.at_ c1 gc2;have y2:=hk.at_ c2 gc2;have y3:=hk.at_ c3 gc2;have y4:=hk.at_ c4 gc2;go_simp⟩) (Zbc.refl _ _) (by simp only [Act.put,pkA,pkB,pkC];rfl) ?_
     refine Zcl Zby (w0:=w) 20 16 49 63 64 65 66 5 35 103 40 2 8 129 g (u:=u2) (p:=Zbt) (cs:=[.int .i64 Zbt.pc,w1_,w2_,.int .i64 Zbt.halt,w3_]) _ (T2 k) ⟨rfl,rfl,rfl,rfl⟩ (by kernel_rfl) ⟨rfl,rfl,rfl⟩ ⟨rfl,rfl,rfl⟩ ⟨rfl,rfl,rfl⟩ ⟨rfl,rfl,rfl⟩ rfl (by decide) rfl rfl (fun w1=>by go_simp <;> (constructor <;> rfl)) (fun w1=>by go_simp) Tryz.underlying35 Zsw rfl (by decide) (by omega) (fun _=>by go_simp) ?hp (HS.ho2) (HS.ht2 HK) (fun b hb=>HK.hSw b hb.1.1) (HS.hfr2 HK (brf_)) HS.hB (by simp;omega) (Zbc.refl _ _) nlr_ Ng (show 8<14 by decide) gg2 (fun _ _ _ d _ h=>by cases d <;> exact h) ?_
     case hp =>
      rw [HX.out.2.2.2.1]
      exact Zbx hcw (fun b hb=>⟨hb.1,hb.2.trans (congrArg (fun q=>(q,3,k)) hnk.symm)⟩)
     rintro B9_ L9 d w5 vA vB-hR HB3 hgr hk3 hat
     have HS3:=HS.app2 HK brf_ hgr HB3 hlt hR hat
     simp only [Act.put,pkA,pkB,pkC]
     clear HS hd Ng N3d N4d qq3 qq4 qq5 Pa Pb Pc hcc hcw c0 c1 c2 c3 c4 hgr hR hk3 hat HB3 gg2 g32 g42 gN2 gc2 gz2 zc hk0
     go_wp2
     refine ⟨⟨k+1,_,_,by omega,rfl,HS3⟩, ?_⟩
     simp [intOf]
     omega
    ·obtain rfl:k=x.cells.length:=by omega
     obtain ⟨-,-,-,-,h0y⟩:=cellsP5 (Zab N4 hW9)
     go_wp2
     clear h0p h0y hW9 hsW hgl hlt hk
     go_loopw [8] (fun i wr=>∃ (k:Nat) (u3 u4 u5:Value) (f:Nat→Nat),k≤x.ways.length∧i=.int .i64 k∧OnS w W (fun k=>w.heap.size≤k∧k≠w.heap.size+1∧k≠g) g f0 T2 T3 T4 x (.int .i64 x.nodes) (.int .i64 x.secret) (.int .i64 x.fuel) (.slice P1 x.cells.length q1) (.slice P2 x.ways.length q2) (.slice P3 x.slots.length q3) (.slice P4 x.turns.length q4) (.slice P7 x.cells.length q7) n x.cells.length k k k u1 u2 u3 u4 u5 f wr) (fun i _=>x.ways.length-(intOf i).toNat)
     case atStart=>exact ⟨0,_,_,_,_,Nat.zero_le _,rfl,HS⟩
     case round =>
      clear HS f
      obtain ⟨k,u3,u4,u5,f,hk,rfl,HS⟩:=hrel
      have hW9:=HS.hb;have hsW:=hW9.size;have hgl:=Zao HS.ng
      obtain ⟨-,-,-,-,h0y⟩:=cellsP5 (Zab N4 hW9)
      by_cases hlt:k<x.ways.length
      ·obtain ⟨y,hy9⟩:=Zar x.ways hlt
       obtain ⟨e0,e1,e2,e3⟩:=hxx.ends k y hy9
       obtain ⟨adw,cs0,eA,hk0,yc0,yci⟩:=Zce HX.out.2.1 hy9
       obtain ⟨A1,c1_,rfl,-,-⟩:=Wy_K hk0
       replace yc0:W.cell? (adw.add (k*5))=some (.int .i64 y.frm):=yc0 _ rfl
       replace yci:W.cell? ⟨(adw.add (k*5)).block,(adw.add (k*5)).off+1,none⟩=some (.int .i64 y.dst):=yci 1 _ (by decide) rfl
       subst eA;clear hk0
       obtain ⟨z3,hz3⟩:=Zar x.cells (show y.frm.toNat<x.cells.length by omega)
       obtain ⟨m,hm,hmn⟩:∃ m:Nat,z3.node=(m:Int)∧m<n:=⟨z3.node.toNat,by have:=hxx.nod _ z3 hz3;omega,by have:=hxx.nod _ z3 hz3;omega⟩
       have hnk:begins x (k:Int)=(m:Int):=by rw [Ziz (y:=y) (by simpa using hy9),Zdl hz3,hm]
       obtain ⟨j,hj,hjl⟩:∃ j:Nat,y.frm=(j:Int)∧j<x.cells.length:=⟨y.frm.toNat,by omega,by omega⟩
       rw [hj,Int.toNat_natCast] at hz3
       obtain ⟨ad,cs0,eA,hk0,zc,-⟩:=Zce HX.out.1 hz3
       obtain ⟨A1,c1_,rfl,-,-⟩:=Zxb hk0
       replace zc:W.cell? (ad.add (j*5))=some (.int .i64 (m:Int)):=by rw [← hm];exact zc _ rfl
       subst eA;clear hk0
       have yc0_:=yc0;rw [hj] at yc0_
       have gz2:=HS.w3 (World.block_lt_of_cell? _ _ zc);have gy2:=HS.w3 (World.block_lt_of_cell? _ _ yc0)
       obtain ⟨gN,v3,v4,v5,eB,hgN_,-,qq3,qq4,qq5,Pa,Pb,Pc⟩:=HX.out.2.2.1 m (Zbm x 1 true) (by rw [List.getElem?_replicate,if_pos hmn])
       obtain ⟨gc,dc,cs,rfl,hgc,hcl,hcc,hcw⟩:=Zig (n:=x.ways.length) Pb (by simp [Zbm]) (show _[k]? = some (Zbd y.depth) from by simp [Zbm,hy9])
       subst eB
       obtain ⟨w1_,fc,rfl,-⟩:=Zhn hcw
       replace hcw:=Zbj hcw HB4.out;replace qq4:=Zaa HB4.out qq4
       have gN2:=HS.w3 (show gN<W.heap.size by omega);have gc2:=HS.w3 (show gc<W.heap.size by omega)
       go_upto_region 17 with (fail)
       clear h0y
       have gg2:=HS.g3 HK;have g32:=HS.w3 (q:=w3.heap.size) (by omega);have g42:=HS.w3 (q:=W3.heap.size) (by omega)
       refine Zcf 25 u3.ownBlock [24] (by kernel_rfl) rfl rfl ?_
       intro Wd hd hs'
       replace HS:=HS.below hd;have Ng:=HS.ng;have N3d:=Zab N3 HS.hb;have N4d:=Zab N4 HS.hb
       replace zc:=Zaa HS.hb zc;replace yc0_:=Zaa HS.hb yc0_
       replace qq4:=Zaa HS.hb qq4
       have c0:Wd.cell? ⟨gc,k*2,none⟩=some (.int .i64 (Zbd y.depth).depth):=Zaa HS.hb (Zaa HB4.out (hcc 0 _ rfl))
       have c1:Wd.cell? ⟨gc,k*2+1,none⟩=some (w1_):=Zaa HS.hb (Zaa HB4.out (hcc 1 _ rfl))
       replace hcw:=Zbx (Zbj (Zcj hcw) HS.hb) (fun b hb=>hb.1)
       refine head2 25 0 74 75 5 36 40 3 9 g (u:=u3) ⟨rfl,rfl⟩ (by kernel_rfl) ⟨rfl,rfl,rfl⟩ ⟨rfl,rfl,rfl⟩ rfl (show 74<129 by decide) (fun w1=>by go_simp) (fun w1 h=>by go_simp) (fun w1 hk=>hk.cell Ng gg2 rfl) (Zbc.refl _ _) (fun _ _ _ d _ h=>by cases d <;> exact h) ?_
       refine Zbb (by simp only [Act.put,pkA,pkB,pkC];rfl) ?_
       refine head2 25 2 76 77 3 53 56 1 7 w3.heap.size (u:=.slice (some ⟨gN,0,none⟩) n d9) ⟨rfl,rfl⟩ (by kernel_rfl) ⟨rfl,rfl,rfl⟩ ⟨rfl,rfl,rfl⟩ rfl (show 76<129 by decide) (fun w1=>by go_simp) (fun w1 h=>by go_simp) (fun w1 hk=>hk.cell N3d g32 rfl) (Zbc.refl _ _) (fun _ _ _ d _ h=>by cases d <;> exact h) ?_
       refine Zbb (by simp only [Act.put,pkA,pkB,pkC];rfl) ?_
       refine head2 25 4 78 79 4 29 33 3 3 W3.heap.size (u:=.slice (some ad) x.cells.length q1) ⟨rfl,rfl⟩ (by kernel_rfl) ⟨rfl,rfl,rfl⟩ ⟨rfl,rfl,rfl⟩ rfl (show 78<129 by decide) (fun w1=>by go_simp) (fun w1 h=>by go_simp) (fun w1 hk=>hk.cell N4d g42 rfl) (Zbc.refl _ _) (fun _ _ _ d _ h=>by cases d <;> exact h) ?_
       refine Zbb (by simp only [Act.put,pkA,pkB,pkC];rfl) ?_
       refine head2 25 6 80 81 4 30 33 4 4 W3.heap.size (u:=.slice (some adw) x.ways.length q2) ⟨rfl,rfl⟩ (by kernel_rfl) ⟨rfl,rfl,rfl⟩ ⟨rfl,rfl,rfl⟩ rfl (show 80<129 by decide) (fun w1=>by go_simp) (fun w1 h=>by go_simp) (fun w1 hk=>hk.cell N4d g42 rfl) (Zbc.refl _ _) (fun _ _ _ d _ h=>by cases d <;> exact h) ?_
       refine Zbb (by simp only [Act.put,pkA,pkB,pkC];rfl) ?_
       refine mv1 25 8 82 8 rfl (by kernel_rfl) ⟨rfl,rfl,rfl⟩ rfl (fun _ _ _ d _ h=>by cases d <;> exact h) ?_
       refine Zbb (by simp only [Act.put,pkA,pkB,pkC];rfl) ?_
       refine Zap (i:=9) (N:=some 83) (v:=.pointer (some (adw.add (k*5)))) (upB 25 10) rfl rfl (by kernel_rfl) (fun _ _ _ h=>h) (Or.inl ⟨by rfl,fun w1=>by go_simp⟩) (by simp only [Act.put,pkA,pkB,pkC];rfl) ?_
       refine Zap (i:=10) (N:=some 84) (v:=.pointer (some (adw.add (k*5)))) (upB 25 11) rfl rfl (by kernel_rfl) (fun _ _ _ h=>h) (Or.inl ⟨by rfl,fun w1=>by go_simp⟩) (by simp only [Act.put,pkA,pkB,pkC];rfl) ?_
       refine Zbz (i:=11) (N:=some 85) (v:=.int .i64 (j:Int)) (upB 25 12) rfl rfl (by kernel_rfl) (fun _ _ _ h=>h) (Or.inl ⟨by rfl,fun w1 hk=>by have yy:=hk.at_ yc0_ gy2;go_simp⟩) (Zbc.refl _ _) (by simp only [Act.put,pkA,pkB,pkC];rfl) ?_
       refine Zap (i:=12) (N:=some 86) (v:=.pointer (some (ad.add (j*5)))) (upB 25 13) rfl rfl (by kernel_rfl) (fun _ _ _ h=>h) (Or.inl ⟨by rfl,fun w1=>by go_simp⟩) (by simp only [Act.put,pkA,pkB,pkC];rfl) ?_
       refine Zap (i:=13) (N:=some 87) (v:=.pointer (some (ad.add (j*5)))) (upB 25 14) rfl rfl (by kernel_rfl) (fun _ _ _ h=>h) (Or.inl ⟨by rfl,fun w1=>by go_simp⟩) (by simp only [Act.put,pkA,pkB,pkC];rfl) ?_
       refine Zbz (i:=14) (N:=some 88) (v:=.int .i64 (m:Int)) (upB 25 15) rfl rfl (by kernel_rfl) (fun _ _ _ h=>h) (Or.inl ⟨by rfl,fun w1 hk=>by have yy:=hk.at_ zc gz2;go_simp⟩) (Zbc.refl _ _) (by simp only [Act.put,pkA,pkB,pkC];rfl) ?_
       refine Zap (i:=15) (N:=some 89) (v:=.pointer (some ((⟨gN,0,none⟩:Addr).add (m*10)))) (upB 25 16) rfl rfl (by kernel_rfl) (fun _ _ _ h=>h) (Or.inl ⟨by rfl,fun w1=>by go_simp⟩) (by simp only [Act.put,pkA,pkB,pkC];rfl) ?_
       refine Zap (i:=16) (N:=some 90) (v:=.pointer (some ⟨gN,m*10+4,none⟩)) (upB 25 17) rfl rfl (by kernel_rfl) (fun _ _ _ h=>h) (Or.inl ⟨by rfl,fun w1=>by go_simp⟩) (by simp only [Act.put,pkA,pkB,pkC];rfl) ?_
       refine Zbz (i:=17) (N:=some 91) (v:=.slice (some ⟨gc,0,none⟩) x.ways.length dc) (upB 25 18) rfl rfl (by kernel_rfl) (fun _ _ _ h=>h) (Or.inl ⟨by rfl,fun w1 hk=>by have yy:=hk.at_ qq4 gN2;go_simp⟩) (Zbc.refl _ _) (by simp only [Act.put,pkA,pkB,pkC];rfl) ?_
       refine mv1 25 18 92 8 rfl (by kernel_rfl) ⟨rfl,rfl,rfl⟩ rfl (fun _ _ _ d _ h=>by cases d <;> exact h) ?_
       refine Zbb (by simp only [Act.put,pkA,pkB,pkC];rfl) ?_
       refine Zap (i:=19) (N:=some 93) (v:=.pointer (some ((⟨gc,0,none⟩:Addr).add (k*2)))) (upB 25 20) rfl rfl (by kernel_rfl) (fun _ _ _ h=>h) (Or.inl ⟨by rfl,fun w1=>by go_simp⟩) (by simp only [Act.put,pkA,pkB,pkC];rfl) ?_
       refine Zbz (i:=20) (N:=some 94) (v:=.agg #[.int .i64 (Zbd y.depth).depth,w1_]) (upB 25 21) rfl rfl (by kernel_rfl) (fun _ _ _ h=>h) (Or.inl ⟨by rfl,fun w1 hk=>by have y0:=hk.at_ c0 gc2;have y1:=hk.at_ c1 gc2;go_simp⟩) (Zbc.refl _ _) (by simp only [Act.put,pkA,pkB,pkC];rfl) ?_
       refine Zcl kBox (w0:=w) 25 21 75 94 95 96 97 5 36 109 40 3 9 129 g (u:=u3) (p:=Zbd y.depth) (cs:=[.int .i64 (Zbd y.depth).depth,w1_]) _ (T3 k) ⟨rfl,rfl,rfl,rfl⟩ (by kernel_rfl) ⟨rfl,rfl,rfl⟩ ⟨rfl,rfl,rfl⟩ ⟨rfl,rfl,rfl⟩ ⟨rfl,rfl,rfl⟩ rfl (by decide) rfl rfl (fun w1=>by go_simp <;> (constructor <;> rfl)) (fun w1=>by go_simp) Tryz.underlying36 iBox rfl (by decide) (by omega) (fun _=>by go_simp) ?hp (HS.ho3) (HS.ht3 HK) (fun b hb=>HK.hSw b hb.1.1) (HS.hfr3 HK (brf_)) HS.hB (by simp;omega) (Zbc.refl _ _) nlr_ Ng (show 9<14 by decide) gg2 (fun _ _ _ d _ h=>by cases d <;> exact h) ?_
       case hp =>
        rw [HX.out.2.2.2.2.1]
        exact Zbx hcw (fun b hb=>⟨hb.1,hb.2.trans (congrArg (fun q=>(q,4,k)) (by rw [hnk,Int.toNat_natCast]))⟩)
       rintro B9_ L9 d w5 vA vB-hR HB3 hgr hk3 hat
       have HS3:=HS.app3 HK brf_ hgr HB3 hy9 hR hat
       simp only [Act.put,pkA,pkB,pkC]
       clear HS hd Ng N3d N4d qq3 qq4 qq5 Pa Pb Pc hcc hcw c0 c1 hgr hR hk3 hat HB3 gg2 g32 g42 gN2 gc2 gz2 gy2 zc yc0_ hj hm hnk hz3
       generalize w5.setCell ⟨g,9,none⟩ (.slice B9_ L9 d)=W5 at *
       have HS:=HS3;clear HS3
       obtain ⟨z4,hz4⟩:=Zar x.cells (show y.dst.toNat<x.cells.length by omega)
       obtain ⟨m,hm,hmn⟩:∃ m:Nat,z4.node=(m:Int)∧m<n:=⟨z4.node.toNat,by have:=hxx.nod _ z4 hz4;omega,by have:=hxx.nod _ z4 hz4;omega⟩
       have hnk:ends x (k:Int)=(m:Int):=by rw [Zqk (y:=y) (by simpa using hy9),Zdl hz4,hm]
       obtain ⟨j,hj,hjl⟩:∃ j:Nat,y.dst=(j:Int)∧j<x.cells.length:=⟨y.dst.toNat,by omega,by omega⟩
       rw [hj,Int.toNat_natCast] at hz4
       obtain ⟨ad_,cs0,eA,hk0,zc,-⟩:=Zce HX.out.1 hz4
       obtain ⟨A1,c1_,rfl,-,-⟩:=Zxb hk0
       replace zc:W.cell? (ad_.add (j*5))=some (.int .i64 (m:Int)):=by rw [← hm];exact zc _ rfl
       obtain rfl:ad=ad_:=Option.some.inj eA
       clear eA hk0
       have yci_:=yci;rw [hj] at yci_
       have gz2:=HS.w4 (World.block_lt_of_cell? _ _ zc);have gy2:=HS.w4 (World.block_lt_of_cell? _ _ yci)
       obtain ⟨gM,v3,v4,v5,eB,hgN_,-,qq3,qq4,qq5,Pa,Pb,Pc⟩:=HX.out.2.2.1 m (Zbm x 1 true) (by rw [List.getElem?_replicate,if_pos hmn])
       obtain ⟨gc,dc,cs,rfl,hgc,hcl,hcc,hcw⟩:=Zig (n:=x.ways.length) Pc (by simp [Zbm]) (show _[k]? = some (Zbd y.depth) from by simp [Zbm,hy9])
       have e9:gN=gM:=by injection eB with e;injection e
       subst e9
       obtain ⟨w1_,fc,rfl,-⟩:=Zhn hcw
       replace hcw:=Zbj hcw HB4.out;replace qq5:=Zaa HB4.out qq5
       have gN2:=HS.w4 (show gN<W.heap.size by omega);have gc2:=HS.w4 (show gc<W.heap.size by omega)
       go_upto_region 18 with (fail)
       have gg2:=HS.g4 HK;have g32:=HS.w4 (q:=w3.heap.size) (by omega);have g42:=HS.w4 (q:=W3.heap.size) (by omega)
       refine Zcf 25 u4.ownBlock [24] (by kernel_rfl) rfl rfl ?_
       intro Wd hd hs'
       replace HS:=HS.below hd;have Ng:=HS.ng;have N3d:=Zab N3 HS.hb;have N4d:=Zab N4 HS.hb
       replace zc:=Zaa HS.hb zc;replace yci_:=Zaa HS.hb yci_
       replace qq5:=Zaa HS.hb qq5
       have c0:Wd.cell? ⟨gc,k*2,none⟩=some (.int .i64 (Zbd y.depth).depth):=Zaa HS.hb (Zaa HB4.out (hcc 0 _ rfl))
       have c1:Wd.cell? ⟨gc,k*2+1,none⟩=some (w1_):=Zaa HS.hb (Zaa HB4.out (hcc 1 _ rfl))
       replace hcw:=Zbx (Zbj (Zcj hcw) HS.hb) (fun b hb=>hb.1)
       refine head2 25 0 98 99 5 36 40 4 10 g (u:=u4) ⟨rfl,rfl⟩ (by kernel_rfl) ⟨rfl,rfl,rfl⟩ ⟨rfl,rfl,rfl⟩ rfl (show 98<129 by decide) (fun w1=>by go_simp) (fun w1 h=>by go_simp) (fun w1 hk=>hk.cell Ng gg2 rfl) (Zbc.refl _ _) (fun _ _ _ d _ h=>by cases d <;> exact h) ?_
       refine Zbb (by simp only [Act.put,pkA,pkB,pkC];rfl) ?_
       refine head2 25 2 100 101 3 53 56 1 7 w3.heap.size (u:=.slice (some ⟨gN,0,none⟩) n d9) ⟨rfl,rfl⟩ (by kernel_rfl) ⟨rfl,rfl,rfl⟩ ⟨rfl,rfl,rfl⟩ rfl (show 100<129 by decide) (fun w1=>by go_simp) (fun w1 h=>by go_simp) (fun w1 hk=>hk.cell N3d g32 rfl) (Zbc.refl _ _) (fun _ _ _ d _ h=>by cases d <;> exact h) ?_
       refine Zbb (by simp only [Act.put,pkA,pkB,pkC];rfl) ?_
       refine head2 25 4 102 103 4 29 33 3 3 W3.heap.size (u:=.slice (some ad) x.cells.length q1) ⟨rfl,rfl⟩ (by kernel_rfl) ⟨rfl,rfl,rfl⟩ ⟨rfl,rfl,rfl⟩ rfl (show 102<129 by decide) (fun w1=>by go_simp) (fun w1 h=>by go_simp) (fun w1 hk=>hk.cell N4d g42 rfl) (Zbc.refl _ _) (fun _ _ _ d _ h=>by cases d <;> exact h) ?_
       refine Zbb (by simp only [Act.put,pkA,pkB,pkC];rfl) ?_
       refine head2 25 6 104 105 4 30 33 4 4 W3.heap.size (u:=.slice (some adw) x.ways.length q2) ⟨rfl,rfl⟩ (by kernel_rfl) ⟨rfl,rfl,rfl⟩ ⟨rfl,rfl,rfl⟩ rfl (show 104<129 by decide) (fun w1=>by go_simp) (fun w1 h=>by go_simp) (fun w1 hk=>hk.cell N4d g42 rfl) (Zbc.refl _ _) (fun _ _ _ d _ h=>by cases d <;> exact h) ?_
       refine Zbb (by simp only [Act.put,pkA,pkB,pkC];rfl) ?_
       refine mv1 25 8 106 8 rfl (by kernel_rfl) ⟨rfl,rfl,rfl⟩ rfl (fun _ _ _ d _ h=>by cases d <;> exact h) ?_
       refine Zbb (by simp only [Act.put,pkA,pkB,pkC];rfl) ?_
       refine Zap (i:=9) (N:=some 107) (v:=.pointer (some (adw.add (k*5)))) (upB 25 10) rfl rfl (by kernel_rfl) (fun _ _ _ h=>h) (Or.inl ⟨by rfl,fun w1=>by go_simp⟩) (by simp only [Act.put,pkA,pkB,pkC];rfl) ?_
       refine Zap (i:=10) (N:=some 108) (v:=.pointer (some ⟨(adw.add (k*5)).block,(adw.add (k*5)).off+1,none⟩)) (upB 25 11) rfl rfl (by kernel_rfl) (fun _ _ _ h=>h) (Or.inl ⟨by rfl,fun w1=>by go_simp⟩) (by simp only [Act.put,pkA,pkB,pkC];rfl) ?_
       refine Zbz (i:=11) (N:=some 109) (v:=.int .i64 (j:Int)) (upB 25 12) rfl rfl (by kernel_rfl) (fun _ _ _ h=>h) (Or.inl ⟨by rfl,fun w1 hk=>by have yy:=hk.at_ yci_ gy2;go_simp⟩) (Zbc.refl _ _) (by simp only [Act.put,pkA,pkB,pkC];rfl) ?_
       refine Zap (i:=12) (N:=some 110) (v:=.pointer (some (ad.add (j*5)))) (upB 25 13) rfl rfl (by kernel_rfl) (fun _ _ _ h=>h) (Or.inl ⟨by rfl,fun w1=>by go_simp⟩) (by simp only [Act.put,pkA,pkB,pkC];rfl) ?_
       refine Zap (i:=13) (N:=some 111) (v:=.pointer (some (ad.add (j*5)))) (upB 25 14) rfl rfl (by kernel_rfl) (fun _ _ _ h=>h) (Or.inl ⟨by rfl,fun w1=>by go_simp⟩) (by simp only [Act.put,pkA,pkB,pkC];rfl) ?_
       refine Zbz (i:=14) (N:=some 112) (v:=.int .i64 (m:Int)) (upB 25 15) rfl rfl (by kernel_rfl) (fun _ _ _ h=>h) (Or.inl ⟨by rfl,fun w1 hk=>by have yy:=hk.at_ zc gz2;go_simp⟩) (Zbc.refl _ _) (by simp only [Act.put,pkA,pkB,pkC];rfl) ?_
       refine Zap (i:=15) (N:=some 113) (v:=.pointer (some ((⟨gN,0,none⟩:Addr).add (m*10)))) (upB 25 16) rfl rfl (by kernel_rfl) (fun _ _ _ h=>h) (Or.inl ⟨by rfl,fun w1=>by go_simp⟩) (by simp only [Act.put,pkA,pkB,pkC];rfl) ?_
       refine Zap (i:=16) (N:=some 114) (v:=.pointer (some ⟨gN,m*10+5,none⟩)) (upB 25 17) rfl rfl (by kernel_rfl) (fun _ _ _ h=>h) (Or.inl ⟨by rfl,fun w1=>by go_simp⟩) (by simp only [Act.put,pkA,pkB,pkC];rfl) ?_
       refine Zbz (i:=17) (N:=some 115) (v:=.slice (some ⟨gc,0,none⟩) x.ways.length dc) (upB 25 18) rfl rfl (by kernel_rfl) (fun _ _ _ h=>h) (Or.inl ⟨by rfl,fun w1 hk=>by have yy:=hk.at_ qq5 gN2;go_simp⟩) (Zbc.refl _ _) (by simp only [Act.put,pkA,pkB,pkC];rfl) ?_
       refine mv1 25 18 116 8 rfl (by kernel_rfl) ⟨rfl,rfl,rfl⟩ rfl (fun _ _ _ d _ h=>by cases d <;> exact h) ?_
       refine Zbb (by simp only [Act.put,pkA,pkB,pkC];rfl) ?_
       refine Zap (i:=19) (N:=some 117) (v:=.pointer (some ((⟨gc,0,none⟩:Addr).add (k*2)))) (upB 25 20) rfl rfl (by kernel_rfl) (fun _ _ _ h=>h) (Or.inl ⟨by rfl,fun w1=>by go_simp⟩) (by simp only [Act.put,pkA,pkB,pkC];rfl) ?_
       refine Zbz (i:=20) (N:=some 118) (v:=.agg #[.int .i64 (Zbd y.depth).depth,w1_]) (upB 25 21) rfl rfl (by kernel_rfl) (fun _ _ _ h=>h) (Or.inl ⟨by rfl,fun w1 hk=>by have y0:=hk.at_ c0 gc2;have y1:=hk.at_ c1 gc2;go_simp⟩) (Zbc.refl _ _) (by simp only [Act.put,pkA,pkB,pkC];rfl) ?_
       refine Zcl kBox (w0:=w) 25 21 99 118 119 120 121 5 36 109 40 4 10 129 g (u:=u4) (p:=Zbd y.depth) (cs:=[.int .i64 (Zbd y.depth).depth,w1_]) _ (T4 k) ⟨rfl,rfl,rfl,rfl⟩ (by kernel_rfl) ⟨rfl,rfl,rfl⟩ ⟨rfl,rfl,rfl⟩ ⟨rfl,rfl,rfl⟩ ⟨rfl,rfl,rfl⟩ rfl (by decide) rfl rfl (fun w1=>by go_simp <;> (constructor <;> rfl)) (fun w1=>by go_simp) Tryz.underlying36 iBox rfl (by decide) (by omega) (fun _=>by go_simp) ?hp (HS.ho4) (HS.ht4 HK) (fun b hb=>HK.hSw b hb.1.1) (HS.hfr4 HK (brf_)) HS.hB (by simp;omega) (Zbc.refl _ _) nlr_ Ng (show 10<14 by decide) gg2 (fun _ _ _ d _ h=>by cases d <;> exact h) ?_
       case hp =>
        rw [HX.out.2.2.2.2.2]
        exact Zbx hcw (fun b hb=>⟨hb.1,hb.2.trans (congrArg (fun q=>(q,5,k)) (by rw [hnk,Int.toNat_natCast]))⟩)
       rintro B9_ L9 d w5 vA vB-hR HB3 hgr hk3 hat
       have HS3:=HS.app4 HK brf_ hgr HB3 hy9 hR hat
       simp only [Act.put,pkA,pkB,pkC]
       clear HS hd Ng N3d N4d qq3 qq4 qq5 Pa Pb Pc hcc hcw c0 c1 hgr hR hk3 hat HB3 gg2 g32 g42 gN2 gc2 gz2 gy2 zc yci_ hj hm hnk hz4
       generalize w5.setCell ⟨g,10,none⟩ (.slice B9_ L9 d)=W5 at *
       have HS:=HS3;clear HS3
       clear yc0 yci
       have hgl5:=Zao HS.ng;have hsz5:=HS.hb.size
       obtain ⟨-,-,-,-,-,-,-,-,-,-,-,e5⟩:=cellsP12 HS.ng
       have hal:Below W5.heap.size W5 (W5.alloc (.cells #[] 101)):=(brf_).alloc nlr_ _
       have Ngl:=Zab HS.ng hal;have hlz:(W5.alloc (.cells #[] 101)).heap.size=W5.heap.size+1:=by simp
       replace hlz:=Zrj hlz
       have HO5:=HS.ho5n hal
       go_wp2_with ((with_reducible refine Zfo (b:=.append) (xs:=#[.tmp 123,.tmp 125]) rfl ?_);at_builtin;(refine Zdg Zdd (w0:=w) rfl (.tmp 123) (.tmp 125) 37 54 _ _ rfl Tryz.underlying37 Zxe rfl (by decide) (by omega) u5 (List.replicate k []) [] [.slice (some ⟨W5.heap.size,0,none⟩) 0 0] _ (fun b=>b=W5.heap.size) ?aA ?aB ?aP HO5 ?aT (fun b hb=>HK.hSw b hb.1) (HS.hfr5 HK hal) (HS.hB.trans (hal.mono HS.hB.size)) ?aL ?_);(case aA=>rfl);(case aB=>simp [Act.eval]);(case aP=>exact Zwg (Zfl Zck 101 W5 (fun b=>b=W5.heap.size) rfl));(case aT=>exact fun b hb=>⟨HK.hS b (by omega) (by omega),Or.inr (by omega)⟩);(case aL=>simp;omega);intro v2 w2_ hR4 HB3 hgr hat;obtain ⟨E9,L9,d9_,rfl⟩:=Zba hR4;have Ng3:=Zch Ngl hgr (HS.g5 HK);obtain ⟨-,-,-,-,-,-,-,-,-,-,-,e7⟩:=cellsP12 Ng3;have f7:=Zad Ng3 11)
       refine ⟨⟨k+1,_,_,_,_,by omega,rfl,HS.app5 HK hal hgr HB3 hR4 hat⟩, ?_⟩
       simp [intOf]
       omega
      ·obtain rfl:k=x.ways.length:=by omega
       have Nr5:=Zab NrW HS.hb
       go_wp2_with (refine Zen 40 5 2 128 g (w.heap.size+1) #[.int .i64 x.nodes,.int .i64 x.secret,.int .i64 x.fuel,.slice P1 x.cells.length q1,.slice P2 x.ways.length q2,.slice P3 x.slots.length q3,.slice P4 x.turns.length q4,u1,u2,u3,u4,u5,.int .i64 0,.slice P7 x.cells.length q7] #[.int .i64 0,.int .i64 0,.int .i64 0,.slice none 0 0,.slice none 0 0,.slice none 0 0,.slice none 0 0,.slice none 0 0,.slice none 0 0,.slice none 0 0,.slice none 0 0,.slice none 0 0,.int .i64 0,.slice none 0 0] 40 40 _ ⟨rfl,rfl,rfl⟩ ⟨rfl,rfl,rfl⟩ rfl rfl (by decide) (show 128<129 by decide) HS.ng Nr5 Tryz.underlying40 rfl (by kernel_rfl) rfl ?h1c ?_;(case h1c=>obtain ⟨E1_,L1_,q1_,rfl⟩:=Zba (show Rw _ _ _ _ _ _ from HS.hn.r1);obtain ⟨E2_,L2_,q2_,rfl⟩:=Zba (show Rw _ _ _ _ _ _ from HS.hn.r2);obtain ⟨E3_,L3_,q3_,rfl⟩:=Zba (show Rw _ _ _ _ _ _ from HS.hn.r3);obtain ⟨E4_,L4_,q4_,rfl⟩:=Zba (show Rw _ _ _ _ _ _ from HS.hn.r4);obtain ⟨E5_,L5_,q5_,rfl⟩:=Zba (show Rw _ _ _ _ _ _ from HS.hn.r5);simp [Value.oneCell']);intro wz Nz hkz)
       refine bodyPost_ret (results_cell_row rfl _ _ (w.heap.size+1) 40 #[.int .i64 x.nodes,.int .i64 x.secret,.int .i64 x.fuel,.slice P1 x.cells.length q1,.slice P2 x.ways.length q2,.slice P3 x.slots.length q3,.slice P4 x.turns.length q4,u1,u2,u3,u4,u5,.int .i64 0,.slice P7 x.cells.length q7] (0,0) _ rfl Nz Tryz.underlying40 rfl (by kernel_rfl)) rfl ?_
       have hO:=Zdf (HS.own hxx.hn) (fun k hk _=>hkz.block k (by assumption) (fun e=>hk.2.1 e))
       exact ⟨⟨_,rfl,Zbx hO (fun k hk=>hk.1)⟩,HS.hB.trans ⟨hkz.os,hkz.tape,hkz.output,hkz.size,fun b_ hb=>hkz.block b_ (by have:=HS.hB.size;omega) (fun e=>by omega)⟩⟩
end Go.Proofs.YtaeckoinpllpnaaGreat
