/- Part 31 of the proof of its last text: this session's own texts, shortened and joined by a program of its own (wip/pack.py). -/
import Derived.Test.YtaeckoinpllpnaaGreatTaa
import Derived.Test.YtaeckoinpllpnaaGreatTbd
set_option linter.unusedVariables false
set_option linter.unusedSimpArgs false
set_option maxHeartbeats 16000000
set_option maxRecDepth 100000
namespace Go.Proofs.YtaeckoinpllpnaaGreat
open Go.RowKit Go.Proofs.YtaeckoinpllpnaaGreatW.PrintWords Go.Proofs.YtaeckoinpllpnaaGreatW.PrintLast
theorem Zzu (w:World) (n:Nat) (hn:n≤100):(Instr.makeSlice 37 (.int .i64 n) (.int .i64 n)).run Tryz.prog w=.ok (.slice (some ⟨w.heap.size,0,none⟩) n n) (w.alloc (.cells (madeCells #[.slice none 0 0] n) 54)):=by
 obtain ⟨i0,hi,hzz⟩:=Option.map_eq_some_iff.1 Zxe
 simp only [Prod.mk.injEq] at hzz
 obtain ⟨hz0,hz1,hz2⟩:=hzz
 have hmk:=run_make (P:=Tryz.prog) w 37 54 i0 _ Tryz.underlying37 hi hz0 .i64 .i64 (n:Int) (n:Int) (by omega) (by omega) (by rw [hz2];omega) (by omega)
 simp only [Int.toNat_natCast] at hmk
 rw [hz1,Nat.mul_one] at hmk
 exact hmk
theorem Zso (x:Pln) (n:Nat) (hx:Sane x n) (hok:Zcz x=true) (hsm:Zxr (Zee x)) (ws:List Value) (w:World) (hW:allK w (Zee x) kWld ws) :
  Calls Tryz.prog 23 #[.agg ws.toArray] w fun e w'=>(∃ cs:List Value,e=.returned (.agg cs.toArray)∧Own kOne w' (fun k=>w.heap.size≤k) (Zun x) cs)∧Below w.heap.size w w':=by
 have hxx:=hx
 have hWW:=hW
 obtain ⟨B1,d1,B2,d2,B3,d3,B4,d4,B5,d5,B6,d6,B7,d7,rfl,-,-,-,-⟩:=Zpx hx.hn hW
 have qO:=fun (w1:World) (h:Below w.heap.size w w1)=>Zsj x n hxx hok _ w1 (Zai h hWW)
 have qC:=fun (w1:World) (h:Below w.heap.size w w1)=>Zpn (Zee x) _ w1 (Zai h hWW) hsm
 obtain ⟨W0,eW,hb0,Np,Nr⟩:=new2 w (.cells #[.int .i64 x.nodes,.int .i64 x.secret,.int .i64 x.fuel,.slice B1 x.cells.length d1,.slice B2 x.ways.length d2,.slice B3 x.slots.length d3,.slice B4 x.turns.length d4,.slice B5 n d5,.int .i64 0,.slice B6 0 d6,.slice B7 x.cells.length d7] 56) (.cells #[.int .i64 0,.int .i64 0,.int .i64 0,.slice none 0 0,.slice none 0 0,.slice none 0 0,.slice none 0 0,.slice none 0 0,.slice none 0 0,.slice none 0 0,.slice none 0 0,.slice none 0 0,.int .i64 0,.slice none 0 0] 40)
 go_enter Tryz.func23,Tryz.ntmps23
 go_upto_region 1 with (fail)
 refine wp_at eW ?_
 clear eW
 obtain ⟨p0,p1,p2,p3,p4,p5,p6,p7,p8,p9,p10⟩:=cellsP11 Np
 go_upto_region 3 with (go_at_call 62;with_reducible refine (qO _ hb0).mono ?_;rintro e w2 ⟨rfl,hb7⟩;have hb1:=hb0.trans (hb7.mono hb0.size);have Np1:=Zab Np hb7;have Nr1:=Zab Nr hb7;clear p0 p1 p2 p3 p4 p5 p6 p7 p8 p9 p10;obtain ⟨p0,p1,p2,p3,p4,p5,p6,p7,p8,p9,p10⟩:=cellsP11 Np1)
 have hWs:w.heap.size+1<w2.heap.size:=Zao Nr1
 go_upto_region 4 with (first
  | (go_at_call 63;with_reducible refine (qC _ hb1).mono ?_;rintro e w3 ⟨⟨cs1,rfl,hO1⟩,hb8⟩;have hb2:=hb1.trans (hb8.mono hb1.size);have Np2:=Zab Np1 hb8;have Nr2:=Zab Nr1 hb8;clear p0 p1 p2 p3 p4 p5 p6 p7 p8 p9 p10;obtain ⟨u1,u2,u3,u4,u5,u6,u7,ff,rfl,i1,i2,i3,i4,i5,i6,i7⟩:=Zrk hxx.hn hO1;obtain ⟨P1,q1,rfl,-,-⟩:=Zbl i1;obtain ⟨P2,q2,rfl,-,-⟩:=Zbl i2;obtain ⟨P3,q3,rfl,-,-⟩:=Zbl i3;obtain ⟨P4,q4,rfl,-,-⟩:=Zbl i4;obtain ⟨P6,q6,rfl,-,-⟩:=Zbl i6;obtain ⟨P7,q7,rfl,-,-⟩:=Zbl i7;obtain ⟨B9,d9,rfl,-,-⟩:=Zbl i5;try simp only [List.length_replicate,List.length_nil] at i5 i6 i7 ⊢)
  | (refine Zey 56 (.tmp 1) (.tmp 14) ⟨rfl,rfl,rfl⟩ w.heap.size #[.int .i64 x.nodes,.int .i64 x.secret,.int .i64 x.fuel,.slice P1 x.cells.length q1,.slice P2 x.ways.length q2,.slice P3 x.slots.length q3,.slice P4 x.turns.length q4,.slice B9 n d9,.int .i64 0,.slice P6 0 q6,.slice P7 x.cells.length q7] rfl rfl 56 #[.int .i64 x.nodes,.int .i64 x.secret,.int .i64 x.fuel,.slice B1 x.cells.length d1,.slice B2 x.ways.length d2,.slice B3 x.slots.length d3,.slice B4 x.turns.length d4,.slice B5 n d5,.int .i64 0,.slice B6 0 d6,.slice B7 x.cells.length d7] Np2 (by kernel_rfl) rfl (by simp [Value.oneCell']) ?_;intro w4 N4 hk4))
 have hs8:=hb8.size
 have hne4:∀ k,w2.heap.size≤k→k≠w.heap.size:=fun k hk=>by omega
 replace i1:=Zaf (Zah i1 (fun k hk hl=>hk4.block k hl (hne4 k hk.1)))
 replace i2:=Zaf (Zah i2 (fun k hk hl=>hk4.block k hl (hne4 k hk.1)))
 replace i3:=Zaf (Zah i3 (fun k hk hl=>hk4.block k hl (hne4 k hk.1)))
 replace i4:=Zaf (Zah i4 (fun k hk hl=>hk4.block k hl (hne4 k hk.1)))
 replace i5:=Zaf (Zah i5 (fun k hk hl=>hk4.block k hl (hne4 k hk.1)))
 replace i7:=Zaf (Zah i7 (fun k hk hl=>hk4.block k hl (hne4 k hk.1)))
 have Nr4:w4.heap[w.heap.size+1]? = _:=(hk4.block _ (Zao Nr2) (by omega)).trans Nr2
 have hw34:=hk4.size
 have hb3:Below w.heap.size w w4:=hb2.trans ⟨hk4.os,hk4.tape,hk4.output,hk4.size,fun b_ hb=>hk4.block b_ (by have:=hb2.size;omega) (fun e=>by omega)⟩
 clear hk4 Np2 Nr2 hO1 i6 Np1 Nr1 hb1 hb7 Np Nr hb0 hb2 qO qC
 obtain ⟨B,d,L,eB,hL⟩:=Zte i5
 injection eB with eB1 eB2 eB3
 subst eB1
 obtain ⟨B_,d_,eB_,-,rN⟩:=Zbl i5
 injection eB_ with eB4 eB5 eB6
 subst eB4
 clear eB5 eB6
 obtain ⟨P1_,d_,eC_,-,rC⟩:=Zbl i1;injection eC_ with eC4 eC5 eC6;subst eC4;clear eC5 eC6
 obtain ⟨P2_,d_,eC_,-,rY⟩:=Zbl i2;injection eC_ with eC4 eC5 eC6;subst eC4;clear eC5 eC6
 clear eB2 eB3 hsm hW
 generalize w4=W at *
 clear hb8 hw34
 have hWr:w.heap.size+1<W.heap.size:=Zao Nr4
 refine Zfm (n:=14) (S:=fun w1=>Below W.heap.size W w1) (ds:=[13]) #[false,false,false,false,false,false,false,false,false,false,false,false,false,false] (by kernel_rfl) rfl rfl (Zat (brf_)) (fun hWd=>?_)
 refine head2g #[false,false,false,false,false,false,false,false,false,false,false,false,false,false] #[true,false,false,false,false,false,false,false,false,false,false,false,false,false] #[true,true,false,false,false,false,false,false,false,false,false,false,false,false] 0 1 15 16 1 33 56 0 0 w.heap.size (u:=.agg #[.int .i64 x.nodes,.int .i64 x.secret,.int .i64 x.fuel,.slice P1 x.cells.length q1,.slice P2 x.ways.length q2,.slice P3 x.slots.length q3,.slice P4 x.turns.length q4]) ⟨rfl,rfl⟩ (by kernel_rfl) ⟨rfl,rfl,rfl⟩ ⟨rfl,rfl,rfl⟩ rfl (show 15<108 by decide) (fun w1=>by go_simp) (fun w1 hk=>by obtain ⟨h90,h91,h92,h93,h94,h95,h96⟩:=cellsP7 (Zab N4 hk);go_simp) hWd (fun _ _ _ d _ h=>by cases d <;> exact h) ?_
 refine Zbb (by simp only [Act.put,pkA,pkB,pkC];rfl) ?_
 refine head2g #[true,true,false,false,false,false,false,false,false,false,false,false,false,false] #[true,true,true,false,false,false,false,false,false,false,false,false,false,false] #[true,true,true,true,false,false,false,false,false,false,false,false,false,false] 2 3 17 18 1 3 56 2 8 w.heap.size (u:=.int .i64 0) ⟨rfl,rfl⟩ (by kernel_rfl) ⟨rfl,rfl,rfl⟩ ⟨rfl,rfl,rfl⟩ rfl (show 17<108 by decide) (fun w1=>by go_simp) (fun w1 hk=>by obtain ⟨-,-,-,-,-,-,-,-,h98⟩:=cellsP9 (Zab N4 hk);go_simp) hWd (fun _ _ _ d _ h=>by cases d <;> exact h) ?_
 refine Zbb (by simp only [Act.put,pkA,pkB,pkC];rfl) ?_
 refine head2g #[true,true,true,true,false,false,false,false,false,false,false,false,false,false] #[true,true,true,true,true,false,false,false,false,false,false,false,false,false] #[true,true,true,true,true,true,false,false,false,false,false,false,false,false] 4 5 19 20 1 38 56 4 10 w.heap.size (u:=.slice P7 x.cells.length q7) ⟨rfl,rfl⟩ (by kernel_rfl) ⟨rfl,rfl,rfl⟩ ⟨rfl,rfl,rfl⟩ rfl (show 19<108 by decide) (fun w1=>by go_simp) (fun w1 hk=>by obtain ⟨-,-,-,-,-,-,-,-,-,-,h910⟩:=cellsP11 (Zab N4 hk);go_simp) hWd (fun _ _ _ d _ h=>by cases d <;> exact h) ?_
 refine Zbb (by simp only [Act.put,pkA,pkB,pkC];rfl) ?_
 refine Zap (i:=6) (N:=some 21) (v:=.pointer (some ⟨w.heap.size,0,none⟩)) #[true,true,true,true,true,true,true,false,false,false,false,false,false,false] rfl rfl (by kernel_rfl) (fun _ _ _ h=>h) (Or.inl ⟨by rfl,fun w1=>by go_simp⟩) (by simp only [Act.put,pkA,pkB,pkC];rfl) ?_
 refine Zap (i:=7) (N:=some 22) (v:=.pointer (some ⟨w.heap.size,4,none⟩)) #[true,true,true,true,true,true,true,true,false,false,false,false,false,false] rfl rfl (by kernel_rfl) (fun _ _ _ h=>h) (Or.inl ⟨by rfl,fun w1=>by go_simp⟩) (by simp only [Act.put,pkA,pkB,pkC];rfl) ?_
 refine Zbz (i:=8) (N:=some 23) (v:=.slice P2 x.ways.length q2) #[true,true,true,true,true,true,true,true,true,false,false,false,false,false] rfl rfl (by kernel_rfl) (fun _ _ _ h=>h) (Or.inl ⟨by rfl,fun w1 hk=>by obtain ⟨-,-,-,-,y⟩:=cellsP5 (Zab N4 hk);go_simp⟩) hWd (by simp only [Act.put,pkA,pkB,pkC];rfl) ?_
 refine Zap (i:=9) (N:=some 24) (v:=.int .i64 x.ways.length) #[true,true,true,true,true,true,true,true,true,true,false,false,false,false] rfl rfl (by kernel_rfl) (fun _ _ _ h=>h) (Or.inl ⟨by rfl,fun w1=>by go_simp⟩) (by simp only [Act.put,pkA,pkB,pkC];rfl) ?_
 refine Zia 108 W.heap.size [11] 10 12 0 1000 25 3 (fun _=>26) (fun g=>.slice (some ⟨g,0,none⟩) x.ways.length x.ways.length) (fun g=>.pointer (some ⟨g,0,none⟩)) (.cells (madeCells #[.slice none 0 0] x.ways.length) 54) (.cells #[.int .i64 0,.int .i64 0,.int .i64 0,.slice none 0 0,.slice none 0 0,.slice none 0 0,.slice none 0 0,.slice none 0 0,.slice none 0 0,.slice none 0 0,.slice none 0 0,.slice none 0 0,.int .i64 0,.slice none 0 0] 40) (fun m b1 b2=>#[true,true,true,true,true,true,true,true,true,true,b1,decide (1≤m),b2,false]) 1 (fun m a wx T=>a.tmps.size=108∧Sl [(1,.pointer (some ⟨w.heap.size,0,none⟩)),(2,.pointer (some ⟨w.heap.size+1,0,none⟩)),(16,.agg #[.int .i64 x.nodes,.int .i64 x.secret,.int .i64 x.fuel,.slice P1 x.cells.length q1,.slice P2 x.ways.length q2,.slice P3 x.slots.length q3,.slice P4 x.turns.length q4]),(18,.int .i64 0),(20,.slice P7 x.cells.length q7),(24,.int .i64 x.ways.length)] a∧Below W.heap.size W wx∧(∀ k,T k→W.heap.size≤k)∧(1≤m→∃ gs,a.eval (.tmp 26)=.agg #[.int .i64 x.nodes,.int .i64 x.secret,.int .i64 x.fuel,.slice P1 x.cells.length q1,.slice P2 x.ways.length q2,.slice P3 x.slots.length q3,.slice P4 x.turns.length q4,.slice none 0 0,.slice none 0 0,.slice none 0 0,.slice none 0 0,.slice (some ⟨gs,0,none⟩) x.ways.length x.ways.length,.int .i64 0,.slice P7 x.cells.length q7]∧wx.heap[gs]? = some (.cells (madeCells #[.slice none 0 0] x.ways.length) 54 (0,0))∧¬T gs∧W.heap.size≤gs∧gs<wx.heap.size)) true true (by kernel_rfl) ?hsz ?ht ?hlo ?hS _ ?st1 ?st2 ?hn1 ?hn2 ?hc ?hend 3 0 false false (fun _=>undef) _ _ (fun _=>False) 0 0 rfl (by decide) rfl (fun h=>by cases h) (fun h=>by cases h) (fun _=>rfl) (fun h=>by simp at h) ?hin (fun _ h=>h.elim) (fun _ h=>by cases h) (fun _ h=>by cases h) (fun _ _ h=>by cases h)
 case hsz=>exact fun m a wx T h=>h.1
 case ht=>exact ⟨by decide,by decide,by decide,fun m=>by decide⟩
 case hlo=>exact fun m a wx T h=>h.2.2.1.size
 case hS=>exact fun m a wx T h=>h.2.2.1
 case st1 =>
  rintro m a wx T ⟨h1,h2,h3,h4,h5⟩ hT
  have hb9:Below wx.heap.size wx (wx.alloc (.cells (madeCells #[.slice none 0 0] x.ways.length) 54)):=(brf_).alloc nlr_ _
  refine ⟨by rw [Zcb];exact h1,h2.put (by kernel_rfl),h3.alloc h3.size _,h4,fun e=>?_⟩
  obtain ⟨gs,z1,z2,z3,z4,z5⟩:=h5 e
  exact ⟨gs,(Zaq (by decide)).trans z1,Zab z2 hb9,z3,z4,by have:=hb9.size;omega⟩
 case st2 =>
  rintro m a wx T ⟨h1,h2,h3,h4,h5⟩ hT
  have hb9:Below wx.heap.size wx (wx.alloc (.cells #[.int .i64 0,.int .i64 0,.int .i64 0,.slice none 0 0,.slice none 0 0,.slice none 0 0,.slice none 0 0,.slice none 0 0,.slice none 0 0,.slice none 0 0,.slice none 0 0,.slice none 0 0,.int .i64 0,.slice none 0 0] 40)):=(brf_).alloc nlr_ _
  refine ⟨by rw [Zcb];exact h1,h2.put (by kernel_rfl),h3.alloc h3.size _,h4,fun e=>?_⟩
  obtain ⟨gs,z1,z2,z3,z4,z5⟩:=h5 e
  exact ⟨gs,(Zaq (by decide)).trans z1,Zab z2 hb9,z3,z4,by have:=hb9.size;omega⟩
 case hn1=>exact fun _ m a wx T h=>⟨_,rfl,rfl,rfl,by have e24:a.eval (.tmp 24)=.int .i64 x.ways.length:=h.2.1 (24,_) (by simp);have hmk:=Zzu wx x.ways.length (by have:=hxx.way;omega);revert e24;unfold execOp;generalize a.eval=ρ;intro e24;go_simp⟩
 case hn2=>exact fun _ m a wx T h=>⟨_,rfl,rfl,rfl,by unfold execOp;go_simp⟩
 case hc =>
  intro m i hi a wx T g1 g2 ⟨h1,h2,h3,h4,h5⟩ hT hN1 _
  match m,hi with
  | 0,hi =>
   obtain rfl:=Option.some.inj hi
   obtain ⟨n1,n2,n3,n4,n5⟩:=hN1 rfl
   refine ⟨_,rfl,rfl,rfl,fun K hK=>?_⟩
   have e16:a.eval (.tmp 16)=.agg #[.int .i64 x.nodes,.int .i64 x.secret,.int .i64 x.fuel,.slice P1 x.cells.length q1,.slice P2 x.ways.length q2,.slice P3 x.slots.length q3,.slice P4 x.turns.length q4]:=h2 (16,_) (by simp)
   have e18:a.eval (.tmp 18)=.int .i64 0:=h2 (18,_) (by simp)
   have e20:a.eval (.tmp 20)=.slice P7 x.cells.length q7:=h2 (20,_) (by simp)
   refine Zgd (t:=26) (v:=.agg #[.int .i64 x.nodes,.int .i64 x.secret,.int .i64 x.fuel,.slice P1 x.cells.length q1,.slice P2 x.ways.length q2,.slice P3 x.slots.length q3,.slice P4 x.turns.length q4,.slice none 0 0,.slice none 0 0,.slice none 0 0,.slice none 0 0,.slice (some ⟨g1,0,none⟩) x.ways.length x.ways.length,.int .i64 0,.slice P7 x.cells.length q7]) (w1:=wx) rfl rfl (by revert n1 e16 e18 e20;unfold execOp;generalize a.eval=ρ;intro n1 e16 e18 e20;go_simp <;> rfl) ?_
   exact hK _ _ T ⟨by rw [Zcb];exact h1,h2.put (by kernel_rfl),h3,h4,fun _=>⟨g1,Zco (by rw [h1];decide),n2,n3,n5,n4⟩⟩ hT nlr_ (fun k hk=>Or.inl hk) (fun k _ _ _ _=>rfl)
 case hin=>exact ⟨rfl,fun p hp=>by simp only [List.mem_cons,List.not_mem_nil,or_false] at hp;rcases hp with rfl | rfl | rfl | rfl | rfl | rfl <;> rfl,hWd,fun _ h=>h.elim,fun e=>by omega⟩
 case hend =>
  intro cv gs0 g a wx T ha ⟨h1,h2,h3,h4,h5⟩ hT _ hn2 _
  obtain ⟨gs,z1,z2,z3,z4,z5⟩:=h5 (by decide)
  obtain ⟨k1,k2,k3,k4,k5⟩:=hn2 rfl (by decide)
  have hgs:gs≠g:=Zyx z2 k2 (by decide)
  refine Znl (i:=13) (N:=none) #[true,true,true,true,true,true,true,true,true,true,true,true,true,true] rfl rfl (by kernel_rfl) (by decide) (fun K hK=>?_)
  refine Zgx rfl rfl 40 (.tmp 3) (.tmp 26) rfl g #[.int .i64 x.nodes,.int .i64 x.secret,.int .i64 x.fuel,.slice P1 x.cells.length q1,.slice P2 x.ways.length q2,.slice P3 x.slots.length q3,.slice P4 x.turns.length q4,.slice none 0 0,.slice none 0 0,.slice none 0 0,.slice none 0 0,.slice (some ⟨gs,0,none⟩) x.ways.length x.ways.length,.int .i64 0,.slice P7 x.cells.length q7] k1 z1 40 #[.int .i64 0,.int .i64 0,.int .i64 0,.slice none 0 0,.slice none 0 0,.slice none 0 0,.slice none 0 0,.slice none 0 0,.slice none 0 0,.slice none 0 0,.slice none 0 0,.slice none 0 0,.int .i64 0,.slice none 0 0] k2 (by kernel_rfl) rfl (by simp [Value.oneCell']) (fun w9 Ng hk=>?_)
  refine hK.out _ _ ?_
  clear hK K
  refine Zgw (by kernel_rfl) ?_
  subst ha
  simp only [canB,Zqg,canC,List.length_cons,List.length_nil,if_true,if_false,Bool.false_eq_true,Nat.zero_add,Nat.reduceAdd,Nat.reduceEqDiff]
  simp only [Act.put,pkA,pkB,pkC]
  generalize cv 0=vz0
  have hWx:=h3.size
  have hgg:W.heap.size≤g:=by omega
  have hw9:Below W.heap.size W w9:=h3.trans ⟨hk.os,hk.tape,hk.output,hk.size,fun k hk1=>hk.block k (by omega) (fun e=>by omega)⟩
  have Na9:=(hk.block gs z5 hgs).trans z2
  have hmv:∀ k,k<W.heap.size→w9.heap[k]? = W.heap[k]? := fun k hk1=>hw9.block k hk1
  clear h1 h2 h4 h5 hT hn2 z1 z2 z3 k1 k2 k3 k4 hk hWd h3
  have hT2:∃ T2:Nat→Nat→Prop,T2=(fun (k b:Nat)=>((w2.heap.size≤b∧ff b=7)∧b<W.heap.size)∧L b=((Zel x k).toNat,3,k)):=⟨_,rfl⟩
  have hT3:∃ T3:Nat→Nat→Prop,T3=(fun (k b:Nat)=>((w2.heap.size≤b∧ff b=7)∧b<W.heap.size)∧L b=((begins x k).toNat,4,k)):=⟨_,rfl⟩
  have hT4:∃ T4:Nat→Nat→Prop,T4=(fun (k b:Nat)=>((w2.heap.size≤b∧ff b=7)∧b<W.heap.size)∧L b=((ends x k).toNat,5,k)):=⟨_,rfl⟩
  obtain ⟨T2,hT2⟩:=hT2
  obtain ⟨T3,hT3⟩:=hT3
  obtain ⟨T4,hT4⟩:=hT4
  have hf0:∃ f0:Nat→Nat,f0=(fun b=>if b=gs then 5 else if ff b=7 then (if (L b).2.1=3 then 2 else if (L b).2.1=4 then 3 else 4) else if ff b=10 then 6 else 0):=⟨_,rfl⟩
  obtain ⟨f0,hf0⟩:=hf0
  have hfp:∀ k,k<W.heap.size→3≤ff k→ff k≤6→f0 k=0:=by
   intro k y1 y2 y3
   have e1:k≠gs:=by omega
   rw [hf0]
   simp only [e1,if_false]
   rw [if_neg (by omega),if_neg (by omega)]
  have hfs:∀ k,k<W.heap.size→ff k=10→f0 k=6:=by
   intro k y1 y2
   have e1:k≠gs:=by omega
   rw [hf0]
   simp [e1,y2]
  have ht2:∀ (k b:Nat),T2 k b→w2.heap.size≤b∧b<W.heap.size∧f0 b=2:=by
   intro k b hb
   rw [hT2] at hb
   obtain ⟨⟨⟨y1,y2⟩,y3⟩,y4⟩:=hb
   have e1:b≠gs:=by omega
   refine ⟨y1,y3, ?_⟩
   rw [hf0]
   simp [e1,y2,y4]
  have hd2:∀ (j k b:Nat),T2 k b→T2 j b→j=k:=by
   intro j k b y1 y2
   rw [hT2] at y1 y2
   have e:=y1.2.symm.trans y2.2
   simp only [Prod.mk.injEq] at e
   exact e.2.2.symm
  have ht3:∀ (k b:Nat),T3 k b→w2.heap.size≤b∧b<W.heap.size∧f0 b=3:=by
   intro k b hb
   rw [hT3] at hb
   obtain ⟨⟨⟨y1,y2⟩,y3⟩,y4⟩:=hb
   have e1:b≠gs:=by omega
   refine ⟨y1,y3, ?_⟩
   rw [hf0]
   simp [e1,y2,y4]
  have hd3:∀ (j k b:Nat),T3 k b→T3 j b→j=k:=by
   intro j k b y1 y2
   rw [hT3] at y1 y2
   have e:=y1.2.symm.trans y2.2
   simp only [Prod.mk.injEq] at e
   exact e.2.2.symm
  have ht4:∀ (k b:Nat),T4 k b→w2.heap.size≤b∧b<W.heap.size∧f0 b=4:=by
   intro k b hb
   rw [hT4] at hb
   obtain ⟨⟨⟨y1,y2⟩,y3⟩,y4⟩:=hb
   have e1:b≠gs:=by omega
   refine ⟨y1,y3, ?_⟩
   rw [hf0]
   simp [e1,y2,y4]
  have hd4:∀ (j k b:Nat),T4 k b→T4 j b→j=k:=by
   intro j k b y1 y2
   rw [hT4] at y1 y2
   have e:=y1.2.symm.trans y2.2
   simp only [Prod.mk.injEq] at e
   exact e.2.2.symm
  have HK:OnK w W (fun k=>w.heap.size≤k∧k≠w.heap.size∧k≠w.heap.size+1∧k≠g) g f0 T2 T3 T4:=⟨hb3,hgg,fun k h1 h2=>⟨by omega,by omega,by omega,h2⟩,fun h=>h.2.2.2 rfl,fun k h=>h.1,fun k b h=>⟨⟨by have:=ht2 k b h;omega,by have:=ht2 k b h;omega,by have:=ht2 k b h;omega,by have:=ht2 k b h;omega⟩,(ht2 k b h).2⟩,fun k b h=>⟨⟨by have:=ht3 k b h;omega,by have:=ht3 k b h;omega,by have:=ht3 k b h;omega,by have:=ht3 k b h;omega⟩,(ht3 k b h).2⟩,fun k b h=>⟨⟨by have:=ht4 k b h;omega,by have:=ht4 k b h;omega,by have:=ht4 k b h;omega,by have:=ht4 k b h;omega⟩,(ht4 k b h).2⟩,hd2,hd3,hd4⟩
  have HS:OnS w W (fun k=>w.heap.size≤k∧k≠w.heap.size∧k≠w.heap.size+1∧k≠g) g f0 T2 T3 T4 x (.int .i64 x.nodes) (.int .i64 x.secret) (.int .i64 x.fuel) (.slice P1 x.cells.length q1) (.slice P2 x.ways.length q2) (.slice P3 x.slots.length q3) (.slice P4 x.turns.length q4) (.slice P7 x.cells.length q7) 0 0 0 0 x.ways.length (.slice none 0 0) (.slice none 0 0) (.slice none 0 0) (.slice none 0 0) (.slice (some ⟨gs,0,none⟩) x.ways.length x.ways.length) f0 w9:=by
   refine ⟨Ng,⟨Zui ff (Zae (Zah i1 (fun k hk _=>hmv k hk.2)) (fun k hk=>⟨⟨(by have:=hk.1.1;have:=hk.2;exact ⟨by omega,by omega,by omega,by omega⟩),hfp k hk.2 (by have:=hk.1.2;omega) (by have:=hk.1.2;omega)⟩,hk.1.2⟩)) (Zae (Zah i2 (fun k hk _=>hmv k hk.2)) (fun k hk=>⟨⟨(by have:=hk.1.1;have:=hk.2;exact ⟨by omega,by omega,by omega,by omega⟩),hfp k hk.2 (by have:=hk.1.2;omega) (by have:=hk.1.2;omega)⟩,hk.1.2⟩)) (Zae (Zah i3 (fun k hk _=>hmv k hk.2)) (fun k hk=>⟨⟨(by have:=hk.1.1;have:=hk.2;exact ⟨by omega,by omega,by omega,by omega⟩),hfp k hk.2 (by have:=hk.1.2;omega) (by have:=hk.1.2;omega)⟩,hk.1.2⟩)) (Zae (Zah i4 (fun k hk _=>hmv k hk.2)) (fun k hk=>⟨⟨(by have:=hk.1.1;have:=hk.2;exact ⟨by omega,by omega,by omega,by omega⟩),hfp k hk.2 (by have:=hk.1.2;omega) (by have:=hk.1.2;omega)⟩,hk.1.2⟩)),Zbq _ _ _ _,Zbq _ _ _ _,Zbq _ _ _ _,Zbq _ _ _ _,Zae (Ztc (.slice none 0 0) x.ways.length [] rfl (by decide) Zvb (by have:=hxx.way;omega) (by rw [show x.ways.length*Zdd.length=x.ways.length from Nat.mul_one _];exact Na9)) (fun k hk=>by subst hk;exact ⟨⟨by omega,by omega,by omega,by omega⟩,by rw [hf0];simp⟩),Zae (Zah i7 (fun k hk _=>hmv k hk.2)) (fun k hk=>⟨(by have:=hk.1.1;have:=hk.2;exact ⟨by omega,by omega,by omega,by omega⟩),hfs k hk.2 hk.1.2⟩),trivial,Zxn _ _ _,pcRw _ _ _ _,Ztz _ _ _ _ _ _,Ztz _ _ _ _ _ _,Ztz _ _ _ _ _ _,pcRw _ _ _ _,pcRw _ _ _ _,Zet⟩,hw9,hb3.trans (hw9.mono hb3.size),fun _ _=>rfl, ?_, ?_, ?_, ?_,fun q hq=>?_⟩
   iterate 4 exact fun q hq=>by cases hq
   cases hq
   exact z4
  have HX:=Zrj (And.intro rN (And.intro rC (And.intro rY (And.intro hL (And.intro hT2 (And.intro hT3 hT4))))))
  clear rN rC rY hL hT2 hT3 hT4 ht2 ht3 ht4 hd2 hd3 hd4 hf0 hfp hfs hmv Na9 i1 i2 i3 i4 i5 i7 hgs Ng hok
  obtain ⟨-,-,-,-,-,-,-,p7⟩:=cellsP8 (Zab N4 hw9)
  have hn4:=hxx.n4;have hc8:=hxx.cel;have hw10:=hxx.way
  go_wp2
  clear p7 hw9
  go_loopw [30] (fun i wr=>∃ (k:Nat) (u1:Value) (f:Nat→Nat),k≤n∧i=.int .i64 k∧OnS w W (fun k=>w.heap.size≤k∧k≠w.heap.size∧k≠w.heap.size+1∧k≠g) g f0 T2 T3 T4 x (.int .i64 x.nodes) (.int .i64 x.secret) (.int .i64 x.fuel) (.slice P1 x.cells.length q1) (.slice P2 x.ways.length q2) (.slice P3 x.slots.length q3) (.slice P4 x.turns.length q4) (.slice P7 x.cells.length q7) k 0 0 0 x.ways.length u1 (.slice none 0 0) (.slice none 0 0) (.slice none 0 0) (.slice (some ⟨gs,0,none⟩) x.ways.length x.ways.length) f wr) (fun i _=>n-(intOf i).toNat)
  case atStart=>exact ⟨0,_,_,Nat.zero_le _,rfl,HS⟩
  case round =>
   clear HS
   obtain ⟨k,u1,f,hk,rfl,HS⟩:=hrel
   have hW9:=HS.hb;have Np:=Zab N4 hW9;have hsW:=hW9.size;have hgl:=Zao HS.ng
   by_cases hlt:k<n
   ·have hz9:(List.replicate n (Zbm x 1 true))[k]? = some (Zbm x 1 true):=by rw [List.getElem?_replicate,if_pos hlt]
    obtain ⟨ad,cs0,eA,hk0,h0,hi⟩:=Zce (Zac HX.out.1 hW9) hz9
    obtain ⟨A1,c1,A2,c2,A3,c3,A4,c4,A5,c5,A6,c6,A7,c7,rfl,-⟩:=Zmb hxx.hn hk0
    have y0:wr.cell? (ad.add (k*10))=some (.bool true):=h0 _ rfl
    have y1:wr.cell? ⟨(ad.add (k*10)).block,(ad.add (k*10)).off+1,none⟩=some (.int .i64 1):=hi 1 _ (by decide) rfl
    have y2:wr.cell? ⟨(ad.add (k*10)).block,(ad.add (k*10)).off+2,none⟩=some (.int .i64 0):=hi 2 _ (by decide) rfl
    have y3:wr.cell? ⟨(ad.add (k*10)).block,(ad.add (k*10)).off+3,none⟩=some (.slice A1 x.cells.length c1):=hi 3 _ (by decide) rfl
    have y4:wr.cell? ⟨(ad.add (k*10)).block,(ad.add (k*10)).off+4,none⟩=some (.slice A2 x.ways.length c2):=hi 4 _ (by decide) rfl
    have y5:wr.cell? ⟨(ad.add (k*10)).block,(ad.add (k*10)).off+5,none⟩=some (.slice A3 x.ways.length c3):=hi 5 _ (by decide) rfl
    have y6:wr.cell? ⟨(ad.add (k*10)).block,(ad.add (k*10)).off+6,none⟩=some (.slice A4 x.ways.length c4):=hi 6 _ (by decide) rfl
    have y7:wr.cell? ⟨(ad.add (k*10)).block,(ad.add (k*10)).off+7,none⟩=some (.slice A5 x.ways.length c5):=hi 7 _ (by decide) rfl
    have y8:wr.cell? ⟨(ad.add (k*10)).block,(ad.add (k*10)).off+8,none⟩=some (.slice A6 n c6):=hi 8 _ (by decide) rfl
    have y9:wr.cell? ⟨(ad.add (k*10)).block,(ad.add (k*10)).off+9,none⟩=some (.slice A7 n c7):=hi 9 _ (by decide) rfl
    clear h0 hi hk0
    subst eA
    go_upto_region 8 with (fail)
    change Code.wp _ _ _ _ (wr.alloc (.cells #[.bool true,.int .i64 1,.int .i64 0,.slice A1 x.cells.length c1,.slice A2 x.ways.length c2,.slice A3 x.ways.length c3,.slice A4 x.ways.length c4,.slice A5 x.ways.length c5,.slice A6 n c6,.slice A7 n c7] 98))
    have hal:Below wr.heap.size wr (wr.alloc (.cells #[.bool true,.int .i64 1,.int .i64 0,.slice A1 x.cells.length c1,.slice A2 x.ways.length c2,.slice A3 x.ways.length c3,.slice A4 x.ways.length c4,.slice A5 x.ways.length c5,.slice A6 n c6,.slice A7 n c7] 98)):=(brf_).alloc nlr_ _
    have Ny:=Zas wr (.cells #[.bool true,.int .i64 1,.int .i64 0,.slice A1 x.cells.length c1,.slice A2 x.ways.length c2,.slice A3 x.ways.length c3,.slice A4 x.ways.length c4,.slice A5 x.ways.length c5,.slice A6 n c6,.slice A7 n c7] 98)
    replace HS:=HS.below hal
    clear Np hW9 hgl hal y0 y1 y2 y3 y4 y5 y6 y7 y8 y9
    generalize wr.alloc (.cells #[.bool true,.int .i64 1,.int .i64 0,.slice A1 x.cells.length c1,.slice A2 x.ways.length c2,.slice A3 x.ways.length c3,.slice A4 x.ways.length c4,.slice A5 x.ways.length c5,.slice A6 n c6,.slice A7 n c7] 98)=W1 at *
    have hlt9:=Zao Ny
    have y0:=cellsP1 Ny
    obtain ⟨-,-,-,-,-,-,-,y7⟩:=cellsP8 HS.ng
    go_wp2_with ((with_reducible refine Zfo (b:=.append) (xs:=#[.tmp 35,.tmp 38]) rfl ?_);at_builtin;(refine Zdg Zgk (w0:=w) rfl (.tmp 35) (.tmp 38) 34 4 _ _ rfl Tryz.underlying34 Zzz rfl (by decide) (by omega) u1 (List.replicate k true) true [.bool true] _ (fun _=>False) rfl rfl (Ztm _ _ _) HS.ho1 (fun _ h=>h.elim) (fun k hk=>HK.hSw k hk.1) (HS.hfr1 HK (brf_)) HS.hB (by simp;omega) ?_);intro v2 w2 hR4 HB3 hgr hat;obtain ⟨E9,L9,d9_,rfl⟩:=Zba hR4;have Ng3:=Zch HS.ng hgr (HS.g1 HK);obtain ⟨-,-,-,-,-,-,-,e7⟩:=cellsP8 Ng3;have f7:=Zad Ng3 7)
    refine ⟨⟨k+1,_,_,by omega,rfl,HS.app1 HK brf_ hgr HB3 hR4 hat⟩, ?_⟩
    simp [intOf]
    omega
   ·have e:n=k:=by omega
    subst e
    obtain ⟨-,-,-,p3,-,-,-,p7⟩:=cellsP8 Np
    go_wp2
    clear p3 p7 hW9 Np hsW hgl hlt hk
    go_loopw [46] (fun i wr=>∃ (k:Nat) (u2:Value) (f:Nat→Nat),k≤x.cells.length∧i=.int .i64 k∧OnS w W (fun k=>w.heap.size≤k∧k≠w.heap.size∧k≠w.heap.size+1∧k≠g) g f0 T2 T3 T4 x (.int .i64 x.nodes) (.int .i64 x.secret) (.int .i64 x.fuel) (.slice P1 x.cells.length q1) (.slice P2 x.ways.length q2) (.slice P3 x.slots.length q3) (.slice P4 x.turns.length q4) (.slice P7 x.cells.length q7) n k 0 0 x.ways.length u1 u2 (.slice none 0 0) (.slice none 0 0) (.slice (some ⟨gs,0,none⟩) x.ways.length x.ways.length) f wr) (fun i _=>x.cells.length-(intOf i).toNat)
    case atStart=>exact ⟨0,_,_,Nat.zero_le _,rfl,HS⟩
    case round =>
     clear HS f
     obtain ⟨k,u2,f,hk,rfl,HS⟩:=hrel
     have hW9:=HS.hb;have Np:=Zab N4 hW9;have hsW:=hW9.size;have hgl:=Zao HS.ng
     by_cases hlt:k<x.cells.length
     ·obtain ⟨z,hz9⟩:=Zar x.cells hlt
      obtain ⟨m,hm,hmn⟩:∃ m:Nat,z.node=(m:Int)∧m<n:=⟨z.node.toNat,by have:=hxx.nod k z hz9;omega,by have:=hxx.nod k z hz9;omega⟩
      have hnk:(Zel x k).toNat=m:=by rw [Zdl (c:=(k:Int)) (z:=z) (by simpa using hz9),hm];simp
      obtain ⟨ad,cs0,eA,hk0,h0,hi⟩:=Zce (Zac HX.out.2.1 hW9) hz9
      obtain ⟨A1,c1_,rfl,-,-⟩:=Zxb hk0
      have y0:wr.cell? (ad.add (k*5))=some (.int .i64 (m:Int)):=by rw [← hm];exact h0 _ rfl
      have y1:wr.cell? ⟨(ad.add (k*5)).block,(ad.add (k*5)).off+1,none⟩=some (.int .i64 z.lvl):=hi 1 _ (by decide) rfl
      have y2:wr.cell? ⟨(ad.add (k*5)).block,(ad.add (k*5)).off+2,none⟩=some (.int .i64 z.marks):=hi 2 _ (by decide) rfl
      have y3:wr.cell? ⟨(ad.add (k*5)).block,(ad.add (k*5)).off+3,none⟩=some (.bool z.again):=hi 3 _ (by decide) rfl
      have y4:wr.cell? ⟨(ad.add (k*5)).block,(ad.add (k*5)).off+4,none⟩=some (.slice A1 z.code.length c1_):=hi 4 _ (by decide) rfl
      clear h0 hi hk0
      subst eA
      go_upto_region 13 with (fail)
      obtain ⟨W1,eW,hal,Ny⟩:=new1 wr (.cells #[.int .i64 (m:Int),.int .i64 z.lvl,.int .i64 z.marks,.bool z.again,.slice A1 z.code.length c1_] 107)
      refine wp_at eW ?_
      clear eW
      have HS0:=HS;replace HS:=HS.below hal
      have Np1:=Zab Np hal
      have g2y:some wr.heap.size≠u2.ownBlock:=fun e=>by have:=HS0.b2 _ e.symm;omega
      clear HS0 Np hW9 hgl hal y0 y1 y2 y3 y4
      obtain ⟨gN,v3,v4,v5,eB,hgN,-,qq3,qq4,qq5,Pa,Pb,Pc⟩:=HX.out.2.2.2.1 m (Zbm x 1 true) (by rw [List.getElem?_replicate,if_pos hmn])
      obtain ⟨gc,dc,cs,rfl,hgc,hcl,hcc,hcw⟩:=Zig (n:=x.cells.length) Pa (by simp [Zbm]) (show _[k]? = some Zbt from by simp [Zbm,hlt])
      subst eB
      obtain ⟨w1_,w2_,w3_,fc,rfl,-,-,-⟩:=Zfz hcw
      have gg2:=HS.g2 HK;have gp2:=HS.w2 (q:=w.heap.size) (by omega);have gN2:=HS.w2 hgN;have gc2:=HS.w2 hgc
      refine Zcf 16 u2.ownBlock [15] (by kernel_rfl) rfl rfl ?_
      intro Wd hd hs'
      replace HS:=HS.below hd;have Ng:=HS.ng;have Ny2:=Zab Ny hd;have Np2:=Zab Np1 hd
      replace qq3:=Zaa HS.hb qq3
      have c0:Wd.cell? ⟨gc,k*5,none⟩=some (.int .i64 Zbt.pc):=Zaa HS.hb (hcc 0 _ rfl)
      have c1:Wd.cell? ⟨gc,k*5+1,none⟩=some (w1_):=Zaa HS.hb (hcc 1 _ rfl)
      have c2:Wd.cell? ⟨gc,k*5+2,none⟩=some (w2_):=Zaa HS.hb (hcc 2 _ rfl)
      have c3:Wd.cell? ⟨gc,k*5+3,none⟩=some (.int .i64 Zbt.halt):=Zaa HS.hb (hcc 3 _ rfl)
      have c4:Wd.cell? ⟨gc,k*5+4,none⟩=some (w3_):=Zaa HS.hb (hcc 4 _ rfl)
      replace hcw:=Zbx (Zbj (Zcj hcw) HS.hb) (fun b hb=>hb.1)
      refine head2 16 0 51 52 3 35 40 2 8 g (u:=u2) ⟨rfl,rfl⟩ (by kernel_rfl) ⟨rfl,rfl,rfl⟩ ⟨rfl,rfl,rfl⟩ rfl (show 51<108 by decide) (fun w1=>by go_simp) (fun w1 h=>by go_simp) (fun w1 hk=>hk.cell Ng gg2 rfl) (Zbc.refl _ _) (fun _ _ _ d _ h=>by cases d <;> exact h) ?_
      refine Zbb (by simp only [Act.put,pkA,pkB,pkC];rfl) ?_
      refine head2 16 2 53 54 1 53 56 1 7 w.heap.size (u:=.slice (some ⟨gN,0,none⟩) n d9) ⟨rfl,rfl⟩ (by kernel_rfl) ⟨rfl,rfl,rfl⟩ ⟨rfl,rfl,rfl⟩ rfl (show 53<108 by decide) (fun w1=>by go_simp) (fun w1 h=>by go_simp) (fun w1 hk=>hk.cell Np2 gp2 rfl) (Zbc.refl _ _) (fun _ _ _ d _ h=>by cases d <;> exact h) ?_
      refine Zbb (by simp only [Act.put,pkA,pkB,pkC];rfl) ?_
      refine head2 16 4 55 56 7 3 107 0 0 wr.heap.size (u:=.int .i64 (m:Int)) ⟨rfl,rfl⟩ (by kernel_rfl) ⟨rfl,rfl,rfl⟩ ⟨rfl,rfl,rfl⟩ rfl (show 55<108 by decide) (fun w1=>by go_simp) (fun w1 h=>by go_simp) (fun w1 hk=>hk.cell Ny2 g2y rfl) (Zbc.refl _ _) (fun _ _ _ d _ h=>by cases d <;> exact h) ?_
      refine Zbb (by simp only [Act.put,pkA,pkB,pkC];rfl) ?_
      refine Zap (i:=6) (N:=some 57) (v:=.pointer (some ((⟨gN,0,none⟩:Addr).add (m*10)))) (upB 16 7) rfl rfl (by kernel_rfl) (fun _ _ _ h=>h) (Or.inl ⟨by rfl,fun w1=>by go_simp⟩) (by simp only [Act.put,pkA,pkB,pkC];rfl) ?_
      refine Zap (i:=7) (N:=some 58) (v:=.pointer (some ⟨gN,m*10+3,none⟩)) (upB 16 8) rfl rfl (by kernel_rfl) (fun _ _ _ h=>h) (Or.inl ⟨by rfl,fun w1=>by go_simp⟩) (by simp only [Act.put,pkA,pkB,pkC];rfl) ?_
      refine Zbz (i:=8) (N:=some 59) (v:=.slice (some ⟨gc,0,none⟩) x.cells.length dc) (upB 16 9) rfl rfl (by kernel_rfl) (fun _ _ _ h=>h) (Or.inl ⟨by rfl,fun w1 hk=>by have y:=hk.at_ qq3 gN2;go_simp⟩) (Zbc.refl _ _) (by simp only [Act.put,pkA,pkB,pkC];rfl) ?_
      refine mv1 16 9 60 6 rfl (by kernel_rfl) ⟨rfl,rfl,rfl⟩ rfl (fun _ _ _ d _ h=>by cases d <;> exact h) ?_
      refine Zbb (by simp only [Act.put,pkA,pkB,pkC];rfl) ?_
      refine Zap (i:=10) (N:=some 61) (v:=.pointer (some ((⟨gc,0,none⟩:Addr).add (k*5)))) (upB 16 11) rfl rfl (by kernel_rfl) (fun _ _ _ h=>h) (Or.inl ⟨by rfl,fun w1=>by go_simp⟩) (by simp only [Act.put,pkA,pkB,pkC];rfl) ?_
      refine Zbz (i:=11) (N:=some 62) (v:=.agg #[.int .i64 Zbt.pc,w1_,w2_,.int .i64 Zbt.halt,w3_]) (upB 16 12) rfl rfl (by kernel_rfl) (fun _ _ _ h=>h) (Or.inl ⟨by rfl,fun w1 hk=>by have y0:=hk.at_ c0 gc2;have y1:=hk.at_ c1 gc2;have y2:=hk.at_ c2 gc2;have y3:=hk.at_ c3 gc2;have y4:=hk.at_ c4 gc2;go_simp⟩) (Zbc.refl _ _) (by simp only [Act.put,pkA,pkB,pkC];rfl) ?_
      refine Zcl Zby (w0:=w) 16 12 52 62 63 64 65 3 35 103 40 2 8 108 g (u:=u2) (p:=Zbt) (cs:=[.int .i64 Zbt.pc,w1_,w2_,.int .i64 Zbt.halt,w3_]) _ (T2 k) ⟨rfl,rfl,rfl,rfl⟩ (by kernel_rfl) ⟨rfl,rfl,rfl⟩ ⟨rfl,rfl,rfl⟩ ⟨rfl,rfl,rfl⟩ ⟨rfl,rfl,rfl⟩ rfl (by decide) rfl rfl (fun w1=>by go_simp <;> (constructor <;> rfl)) (fun w1=>by go_simp) Tryz.underlying35 Zsw rfl (by decide) (by omega) (fun _=>by go_simp) ?hp (HS.ho2) (HS.ht2 HK) (fun b hb=>HK.hSw b hb.1.1) (HS.hfr2 HK (brf_)) HS.hB (by simp;omega) (Zbc.refl _ _) nlr_ Ng (show 8<14 by decide) gg2 (fun _ _ _ d _ h=>by cases d <;> exact h) ?_
      case hp =>
       rw [HX.out.2.2.2.2.1]
       exact Zbx hcw (fun b hb=>⟨hb.1.1,hb.2.trans (congrArg (fun q=>(q,3,k)) hnk.symm)⟩)
      rintro B9_ L9 d w3 vA vB-hR HB3 hgr hk3 hat
      have HS3:=HS.app2 HK brf_ hgr HB3 hlt hR hat
      simp only [Act.put,pkA,pkB,pkC]
      clear HS hd Ng Ny2 Np2 Ny Np1 qq3 qq4 qq5 Pa Pb Pc hcc hcw c0 c1 c2 c3 c4 hgr hR hk3 hat HB3
      go_wp2
      refine ⟨⟨k+1,_,_,by omega,rfl,HS3⟩, ?_⟩
      simp [intOf]
      omega
     ·have e:x.cells.length=k:=by omega
      obtain ⟨-,-,-,-,p3⟩:=cellsP5 Np
      obtain rfl:k=x.cells.length:=e.symm
      go_wp2
      clear p3 hW9 Np hsW hgl hlt hk e
      go_loopw [71] (fun i wr=>∃ (k:Nat) (u3 u4:Value) (f:Nat→Nat),k≤x.ways.length∧i=.int .i64 k∧OnS w W (fun k=>w.heap.size≤k∧k≠w.heap.size∧k≠w.heap.size+1∧k≠g) g f0 T2 T3 T4 x (.int .i64 x.nodes) (.int .i64 x.secret) (.int .i64 x.fuel) (.slice P1 x.cells.length q1) (.slice P2 x.ways.length q2) (.slice P3 x.slots.length q3) (.slice P4 x.turns.length q4) (.slice P7 x.cells.length q7) n x.cells.length k k x.ways.length u1 u2 u3 u4 (.slice (some ⟨gs,0,none⟩) x.ways.length x.ways.length) f wr) (fun i _=>x.ways.length-(intOf i).toNat)
      case atStart=>exact ⟨0,_,_,_,Nat.zero_le _,rfl,HS⟩
      case round =>
       clear HS f
       obtain ⟨k,u3,u4,f,hk,rfl,HS⟩:=hrel
       have hW9:=HS.hb;have hgl:=Zao HS.ng
       by_cases hlt:k<x.ways.length
       ·obtain ⟨y,hy9⟩:=Zar x.ways hlt
        obtain ⟨e0,e1,e2,e3⟩:=hxx.ends k y hy9
        obtain ⟨z3,hz3⟩:=Zar x.cells (show (y.frm).toNat<x.cells.length by omega)
        obtain ⟨m,hm,hmn⟩:∃ m:Nat,z3.node=(m:Int)∧m<n:=⟨z3.node.toNat,by have:=hxx.nod _ z3 hz3;omega,by have:=hxx.nod _ z3 hz3;omega⟩
        have hnk:begins x (k:Int)=(m:Int):=by rw [Ziz (y:=y) (by simpa using hy9),Zdl hz3,hm]
        obtain ⟨gN,v3,v4,v5,eB,hgN,-,qq3,qq4,qq5,Pa,Pb,Pc⟩:=HX.out.2.2.2.1 m (Zbm x 1 true) (by rw [List.getElem?_replicate,if_pos hmn])
        obtain ⟨gc,dc,cs,rfl,hgc,hcl,hcc,hcw⟩:=Zig (n:=x.ways.length) Pb (by simp [Zbm]) (show _[k]? = some (Zbd y.depth) from by simp [Zbm,hy9])
        subst eB
        obtain ⟨w1_,fc,rfl,-⟩:=Zhn hcw
        have gg2:=HS.g3 HK;have gp2:=HS.w3 (q:=w.heap.size) (by omega);have gN2:=HS.w3 hgN;have gc2:=HS.w3 hgc
        go_upto_region 18 with (fail)
        refine Zcf 17 u3.ownBlock [16] (by kernel_rfl) rfl rfl ?_
        intro Wd hd hs'
        replace HS:=HS.below hd;have Ng:=HS.ng;have Np2:=Zab N4 HS.hb
        replace qq3:=Zaa HS.hb qq3;replace qq4:=Zaa HS.hb qq4;replace qq5:=Zaa HS.hb qq5
        have c0:Wd.cell? ⟨gc,k*2,none⟩=some (.int .i64 (Zbd y.depth).depth):=Zaa HS.hb (hcc 0 _ rfl)
        have c1:Wd.cell? ⟨gc,k*2+1,none⟩=some (w1_):=Zaa HS.hb (hcc 1 _ rfl)
        replace hcw:=Zbx (Zbj (Zcj hcw) HS.hb) (fun b hb=>hb.1)
        have hP:=Zbh (show Own _ _ _ _ _ from HS.hn.r0)
        have hPc:∀ (i:Nat) (u:Value),[.int .i64 x.nodes,.int .i64 x.secret,.int .i64 x.fuel,.slice P1 x.cells.length q1,.slice P2 x.ways.length q2,.slice P3 x.slots.length q3,.slice P4 x.turns.length q4][i]? = some u→Wd.cell? ⟨w.heap.size,i,none⟩=some u:=by
         intro i v hi
         match i,hi with
         | 0,hi=>obtain rfl:=Option.some.inj hi;exact Zag Np2 rfl
         | 1,hi=>obtain rfl:=Option.some.inj hi;exact Zag Np2 rfl
         | 2,hi=>obtain rfl:=Option.some.inj hi;exact Zag Np2 rfl
         | 3,hi=>obtain rfl:=Option.some.inj hi;exact Zag Np2 rfl
         | 4,hi=>obtain rfl:=Option.some.inj hi;exact Zag Np2 rfl
         | 5,hi=>obtain rfl:=Option.some.inj hi;exact Zag Np2 rfl
         | 6,hi=>obtain rfl:=Option.some.inj hi;exact Zag Np2 rfl
        refine head2 17 0 74 75 3 36 40 3 9 g (u:=u3) ⟨rfl,rfl⟩ (by kernel_rfl) ⟨rfl,rfl,rfl⟩ ⟨rfl,rfl,rfl⟩ rfl (show 74<108 by decide) (fun w1=>by go_simp) (fun w1 h=>by go_simp) (fun w1 hk=>hk.cell Ng gg2 rfl) (Zbc.refl _ _) (fun _ _ _ d _ h=>by cases d <;> exact h) ?_
        refine Zbb (by simp only [Act.put,pkA,pkB,pkC];rfl) ?_
        refine head2 17 2 76 77 1 53 56 1 7 w.heap.size (u:=.slice (some ⟨gN,0,none⟩) n d9) ⟨rfl,rfl⟩ (by kernel_rfl) ⟨rfl,rfl,rfl⟩ ⟨rfl,rfl,rfl⟩ rfl (show 76<108 by decide) (fun w1=>by go_simp) (fun w1 h=>by go_simp) (fun w1 hk=>hk.cell Np2 gp2 rfl) (Zbc.refl _ _) (fun _ _ _ d _ h=>by cases d <;> exact h) ?_
        refine Zbb (by simp only [Act.put,pkA,pkB,pkC];rfl) ?_
        refine Zap (i:=4) (N:=some 78) (v:=.pointer (some ⟨w.heap.size,0,none⟩)) (upB 17 5) rfl rfl (by kernel_rfl) (fun _ _ _ h=>h) (Or.inl ⟨by rfl,fun w1=>by go_simp⟩) (by simp only [Act.put,pkA,pkB,pkC];rfl) ?_
        refine mv1 17 5 79 8 rfl (by kernel_rfl) ⟨rfl,rfl,rfl⟩ rfl (fun _ _ _ d _ h=>by cases d <;> exact h) ?_
        refine Zbb (by simp only [Act.put,pkA,pkB,pkC];rfl) ?_
        refine Zap (i:=10) (N:=some 84) (v:=.int .i64 (k:Int)) #[true,true,true,true,true,true,false,false,false,false,true,false,false,false,false,false,false] rfl rfl (by kernel_rfl) (fun _ _ _ h=>h) (Or.inl ⟨by rfl,fun w1=>by go_simp⟩) (by simp only [Act.put,pkA,pkB,pkC];rfl) ?_
        refine Zfd #[true,true,true,true,true,true,false,false,false,false,true,false,false,false,false,false,false] #[true,true,true,true,true,true,true,false,false,false,true,false,false,false,false,false,false] 6 80 (fun v w1=>v=.int .i64 (m:Int)) rfl (by decide) (by kernel_rfl) rfl rfl rfl Tryz.func64 (by kernel_rfl) rfl #[.pointer (some ⟨w.heap.size,0,none⟩),.int .i64 (k:Int)] (by (try simp only [List.map_toArray,List.map_cons,List.map_nil]);first | done | rfl) ((Zei x _ Wd w.heap.size hP hPc (k:Int) (by omega) (by omega) hxx.ends).mono (fun e w9 h=>⟨⟨_,h.1,by rw [hnk]⟩,h.2⟩)) (Zbc.refl _ _) nlr_ ?_
        rintro v w5 rfl hb1 hk1
        refine Zbb (by simp only [Act.put,pkA,pkB,pkC];rfl) ?_
        refine Zap (i:=7) (N:=some 81) (v:=.pointer (some ((⟨gN,0,none⟩:Addr).add (m*10)))) #[true,true,true,true,true,true,true,true,false,false,true,false,false,false,false,false,false] rfl rfl (by kernel_rfl) (fun _ _ _ h=>h) (Or.inl ⟨by rfl,fun w1=>by go_simp⟩) (by simp only [Act.put,pkA,pkB,pkC];rfl) ?_
        refine Zap (i:=8) (N:=some 82) (v:=.pointer (some ⟨gN,m*10+4,none⟩)) #[true,true,true,true,true,true,true,true,true,false,true,false,false,false,false,false,false] rfl rfl (by kernel_rfl) (fun _ _ _ h=>h) (Or.inl ⟨by rfl,fun w1=>by go_simp⟩) (by simp only [Act.put,pkA,pkB,pkC];rfl) ?_
        refine Zbz (i:=9) (N:=some 83) (v:=.slice (some ⟨gc,0,none⟩) x.ways.length dc) (upB 17 11) rfl rfl (by kernel_rfl) (fun _ _ _ h=>h) (Or.inl ⟨by rfl,fun w1 hk=>by have yy:=hk.at_ qq4 gN2;go_simp⟩) hk1 (by simp only [Act.put,pkA,pkB,pkC];rfl) ?_
        refine Zap (i:=11) (N:=some 85) (v:=.pointer (some ((⟨gc,0,none⟩:Addr).add (k*2)))) (upB 17 12) rfl rfl (by kernel_rfl) (fun _ _ _ h=>h) (Or.inl ⟨by rfl,fun w1=>by go_simp⟩) (by simp only [Act.put,pkA,pkB,pkC];rfl) ?_
        refine Zbz (i:=12) (N:=some 86) (v:=.agg #[.int .i64 (Zbd y.depth).depth,w1_]) (upB 17 13) rfl rfl (by kernel_rfl) (fun _ _ _ h=>h) (Or.inl ⟨by rfl,fun w1 hk=>by have y0:=hk.at_ c0 gc2;have y1:=hk.at_ c1 gc2;go_simp⟩) (hk1) (by simp only [Act.put,pkA,pkB,pkC];rfl) ?_
        refine Zcl kBox (w0:=w) 17 13 75 86 87 88 89 3 36 109 40 3 9 108 g (u:=u3) (p:=Zbd y.depth) (cs:=[.int .i64 (Zbd y.depth).depth,w1_]) _ (T3 k) ⟨rfl,rfl,rfl,rfl⟩ (by kernel_rfl) ⟨rfl,rfl,rfl⟩ ⟨rfl,rfl,rfl⟩ ⟨rfl,rfl,rfl⟩ ⟨rfl,rfl,rfl⟩ rfl (by decide) rfl rfl (fun w1=>by go_simp <;> (constructor <;> rfl)) (fun w1=>by go_simp) Tryz.underlying36 iBox rfl (by decide) (by omega) (fun _=>by go_simp) ?hp (Zaj HS.ho3 hb1) (HS.ht3 HK) (fun b hb=>HK.hSw b hb.1.1) (HS.hfr3 HK hb1) (HS.hB.trans (hb1.mono HS.hB.size)) (by simp;omega) hk1 hb1.size Ng (show 9<14 by decide) gg2 (fun _ _ _ d _ h=>by cases d <;> exact h) ?_
        case hp =>
         rw [HX.out.2.2.2.2.2.1]
         exact Zbx (Zbj (Zcj hcw) hb1) (fun b hb=>⟨hb.1.1.1,hb.1.2.trans (congrArg (fun q=>(q,4,k)) (by rw [hnk,Int.toNat_natCast]))⟩)
        rintro B9_ L9 d w3 vA vB-hR HB3 hgr hk3 hat
        have HS3:=HS.app3 HK hb1 hgr HB3 hy9 hR hat
        simp only [Act.put,pkA,pkB,pkC]
        clear HS hd Ng Np2 qq3 qq4 qq5 Pa Pb Pc hcc hcw c0 c1 hgr hR hk3 hk1 hb1 hat HB3 hP hPc gg2 gp2 gN2 gc2
        generalize w3.setCell ⟨g,9,none⟩ (.slice B9_ L9 d)=W5 at *
        have HS:=HS3;clear HS3
        obtain ⟨z4,hz4⟩:=Zar x.cells (show (y.dst).toNat<x.cells.length by omega)
        obtain ⟨m,hm,hmn⟩:∃ m:Nat,z4.node=(m:Int)∧m<n:=⟨z4.node.toNat,by have:=hxx.nod _ z4 hz4;omega,by have:=hxx.nod _ z4 hz4;omega⟩
        have hnk:ends x (k:Int)=(m:Int):=by rw [Zqk (y:=y) (by simpa using hy9),Zdl hz4,hm]
        obtain ⟨gM,v3,v4,v5,eB,hgM,-,qq3,qq4,qq5,Pa,Pb,Pc⟩:=HX.out.2.2.2.1 m (Zbm x 1 true) (by rw [List.getElem?_replicate,if_pos hmn])
        obtain ⟨gc,dc,cs,rfl,hgc,hcl,hcc,hcw⟩:=Zig (n:=x.ways.length) Pc (by simp [Zbm]) (show _[k]? = some (Zbd y.depth) from by simp [Zbm,hy9])
        have e9:gN=gM:=by injection eB with e;injection e
        subst e9
        obtain ⟨w1_,fc,rfl,-⟩:=Zhn hcw
        have gg2:=HS.g4 HK;have gp2:=HS.w4 (q:=w.heap.size) (by omega);have gN2:=HS.w4 hgN;have gc2:=HS.w4 hgc
        go_upto_region 19 with (fail)
        refine Zcf 17 u4.ownBlock [16] (by kernel_rfl) rfl rfl ?_
        intro Wd hd hs'
        replace HS:=HS.below hd;have Ng:=HS.ng;have Np2:=Zab N4 HS.hb
        replace qq3:=Zaa HS.hb qq3;replace qq4:=Zaa HS.hb qq4;replace qq5:=Zaa HS.hb qq5
        have c0:Wd.cell? ⟨gc,k*2,none⟩=some (.int .i64 (Zbd y.depth).depth):=Zaa HS.hb (hcc 0 _ rfl)
        have c1:Wd.cell? ⟨gc,k*2+1,none⟩=some (w1_):=Zaa HS.hb (hcc 1 _ rfl)
        replace hcw:=Zbx (Zbj (Zcj hcw) HS.hb) (fun b hb=>hb.1)
        have hP:=Zbh (show Own _ _ _ _ _ from HS.hn.r0)
        have hPc:∀ (i:Nat) (u:Value),[.int .i64 x.nodes,.int .i64 x.secret,.int .i64 x.fuel,.slice P1 x.cells.length q1,.slice P2 x.ways.length q2,.slice P3 x.slots.length q3,.slice P4 x.turns.length q4][i]? = some u→Wd.cell? ⟨w.heap.size,i,none⟩=some u:=by
         intro i v hi
         match i,hi with
         | 0,hi=>obtain rfl:=Option.some.inj hi;exact Zag Np2 rfl
         | 1,hi=>obtain rfl:=Option.some.inj hi;exact Zag Np2 rfl
         | 2,hi=>obtain rfl:=Option.some.inj hi;exact Zag Np2 rfl
         | 3,hi=>obtain rfl:=Option.some.inj hi;exact Zag Np2 rfl
         | 4,hi=>obtain rfl:=Option.some.inj hi;exact Zag Np2 rfl
         | 5,hi=>obtain rfl:=Option.some.inj hi;exact Zag Np2 rfl
         | 6,hi=>obtain rfl:=Option.some.inj hi;exact Zag Np2 rfl
        refine head2 17 0 90 91 3 36 40 4 10 g (u:=u4) ⟨rfl,rfl⟩ (by kernel_rfl) ⟨rfl,rfl,rfl⟩ ⟨rfl,rfl,rfl⟩ rfl (show 90<108 by decide) (fun w1=>by go_simp) (fun w1 h=>by go_simp) (fun w1 hk=>hk.cell Ng gg2 rfl) (Zbc.refl _ _) (fun _ _ _ d _ h=>by cases d <;> exact h) ?_
        refine Zbb (by simp only [Act.put,pkA,pkB,pkC];rfl) ?_
        refine head2 17 2 92 93 1 53 56 1 7 w.heap.size (u:=.slice (some ⟨gN,0,none⟩) n d9) ⟨rfl,rfl⟩ (by kernel_rfl) ⟨rfl,rfl,rfl⟩ ⟨rfl,rfl,rfl⟩ rfl (show 92<108 by decide) (fun w1=>by go_simp) (fun w1 h=>by go_simp) (fun w1 hk=>hk.cell Np2 gp2 rfl) (Zbc.refl _ _) (fun _ _ _ d _ h=>by cases d <;> exact h) ?_
        refine Zbb (by simp only [Act.put,pkA,pkB,pkC];rfl) ?_
        refine Zap (i:=4) (N:=some 94) (v:=.pointer (some ⟨w.heap.size,0,none⟩)) (upB 17 5) rfl rfl (by kernel_rfl) (fun _ _ _ h=>h) (Or.inl ⟨by rfl,fun w1=>by go_simp⟩) (by simp only [Act.put,pkA,pkB,pkC];rfl) ?_
        refine mv1 17 5 95 8 rfl (by kernel_rfl) ⟨rfl,rfl,rfl⟩ rfl (fun _ _ _ d _ h=>by cases d <;> exact h) ?_
        refine Zbb (by simp only [Act.put,pkA,pkB,pkC];rfl) ?_
        refine Zap (i:=10) (N:=some 100) (v:=.int .i64 (k:Int)) #[true,true,true,true,true,true,false,false,false,false,true,false,false,false,false,false,false] rfl rfl (by kernel_rfl) (fun _ _ _ h=>h) (Or.inl ⟨by rfl,fun w1=>by go_simp⟩) (by simp only [Act.put,pkA,pkB,pkC];rfl) ?_
        refine Zfd #[true,true,true,true,true,true,false,false,false,false,true,false,false,false,false,false,false] #[true,true,true,true,true,true,true,false,false,false,true,false,false,false,false,false,false] 6 96 (fun v w1=>v=.int .i64 (m:Int)) rfl (by decide) (by kernel_rfl) rfl rfl rfl Tryz.func65 (by kernel_rfl) rfl #[.pointer (some ⟨w.heap.size,0,none⟩),.int .i64 (k:Int)] (by (try simp only [List.map_toArray,List.map_cons,List.map_nil]);first | done | rfl) ((Zft x _ Wd w.heap.size hP hPc (k:Int) (by omega) (by omega) hxx.ends).mono (fun e w9 h=>⟨⟨_,h.1,by rw [hnk]⟩,h.2⟩)) (Zbc.refl _ _) nlr_ ?_
        rintro v w5 rfl hb1 hk1
        refine Zbb (by simp only [Act.put,pkA,pkB,pkC];rfl) ?_
        refine Zap (i:=7) (N:=some 97) (v:=.pointer (some ((⟨gN,0,none⟩:Addr).add (m*10)))) #[true,true,true,true,true,true,true,true,false,false,true,false,false,false,false,false,false] rfl rfl (by kernel_rfl) (fun _ _ _ h=>h) (Or.inl ⟨by rfl,fun w1=>by go_simp⟩) (by simp only [Act.put,pkA,pkB,pkC];rfl) ?_
        refine Zap (i:=8) (N:=some 98) (v:=.pointer (some ⟨gN,m*10+5,none⟩)) #[true,true,true,true,true,true,true,true,true,false,true,false,false,false,false,false,false] rfl rfl (by kernel_rfl) (fun _ _ _ h=>h) (Or.inl ⟨by rfl,fun w1=>by go_simp⟩) (by simp only [Act.put,pkA,pkB,pkC];rfl) ?_
        refine Zbz (i:=9) (N:=some 99) (v:=.slice (some ⟨gc,0,none⟩) x.ways.length dc) (upB 17 11) rfl rfl (by kernel_rfl) (fun _ _ _ h=>h) (Or.inl ⟨by rfl,fun w1 hk=>by have yy:=hk.at_ qq5 gN2;go_simp⟩) hk1 (by simp only [Act.put,pkA,pkB,pkC];rfl) ?_
        refine Zap (i:=11) (N:=some 101) (v:=.pointer (some ((⟨gc,0,none⟩:Addr).add (k*2)))) (upB 17 12) rfl rfl (by kernel_rfl) (fun _ _ _ h=>h) (Or.inl ⟨by rfl,fun w1=>by go_simp⟩) (by simp only [Act.put,pkA,pkB,pkC];rfl) ?_
        refine Zbz (i:=12) (N:=some 102) (v:=.agg #[.int .i64 (Zbd y.depth).depth,w1_]) (upB 17 13) rfl rfl (by kernel_rfl) (fun _ _ _ h=>h) (Or.inl ⟨by rfl,fun w1 hk=>by have y0:=hk.at_ c0 gc2;have y1:=hk.at_ c1 gc2;go_simp⟩) (hk1) (by simp only [Act.put,pkA,pkB,pkC];rfl) ?_
        refine Zcl kBox (w0:=w) 17 13 91 102 103 104 105 3 36 109 40 4 10 108 g (u:=u4) (p:=Zbd y.depth) (cs:=[.int .i64 (Zbd y.depth).depth,w1_]) _ (T4 k) ⟨rfl,rfl,rfl,rfl⟩ (by kernel_rfl) ⟨rfl,rfl,rfl⟩ ⟨rfl,rfl,rfl⟩ ⟨rfl,rfl,rfl⟩ ⟨rfl,rfl,rfl⟩ rfl (by decide) rfl rfl (fun w1=>by go_simp <;> (constructor <;> rfl)) (fun w1=>by go_simp) Tryz.underlying36 iBox rfl (by decide) (by omega) (fun _=>by go_simp) ?hp (Zaj HS.ho4 hb1) (HS.ht4 HK) (fun b hb=>HK.hSw b hb.1.1) (HS.hfr4 HK hb1) (HS.hB.trans (hb1.mono HS.hB.size)) (by simp;omega) hk1 hb1.size Ng (show 10<14 by decide) gg2 (fun _ _ _ d _ h=>by cases d <;> exact h) ?_
        case hp =>
         rw [HX.out.2.2.2.2.2.2]
         exact Zbx (Zbj (Zcj hcw) hb1) (fun b hb=>⟨hb.1.1.1,hb.1.2.trans (congrArg (fun q=>(q,5,k)) (by rw [hnk,Int.toNat_natCast]))⟩)
        rintro B9_ L9 d w3 vA vB-hR HB3 hgr hk3 hat
        have HS3:=HS.app4 HK hb1 hgr HB3 hy9 hR hat
        simp only [Act.put,pkA,pkB,pkC]
        clear HS hd Ng Np2 qq3 qq4 qq5 Pa Pb Pc hcc hcw c0 c1 hgr hR hk3 hk1 hb1 hat HB3 hP hPc gg2 gp2 gN2 gc2
        go_wp2
        refine ⟨⟨k+1,_,_,_,by omega,rfl,HS3⟩, ?_⟩
        simp [intOf]
        omega
       ·obtain rfl:k=x.ways.length:=by omega
        have Nr5:=Zab Nr4 HS.hb
        go_wp2_with (refine Zen 40 3 2 107 g (w.heap.size+1) #[.int .i64 x.nodes,.int .i64 x.secret,.int .i64 x.fuel,.slice P1 x.cells.length q1,.slice P2 x.ways.length q2,.slice P3 x.slots.length q3,.slice P4 x.turns.length q4,u1,u2,u3,u4,.slice (some ⟨gs,0,none⟩) x.ways.length x.ways.length,.int .i64 0,.slice P7 x.cells.length q7] #[.int .i64 0,.int .i64 0,.int .i64 0,.slice none 0 0,.slice none 0 0,.slice none 0 0,.slice none 0 0,.slice none 0 0,.slice none 0 0,.slice none 0 0,.slice none 0 0,.slice none 0 0,.int .i64 0,.slice none 0 0] 40 40 _ ⟨rfl,rfl,rfl⟩ ⟨rfl,rfl,rfl⟩ rfl rfl (by decide) (show 107<108 by decide) HS.ng Nr5 Tryz.underlying40 rfl (by kernel_rfl) rfl ?h1c ?_;(case h1c=>obtain ⟨E1_,L1_,q1_,rfl⟩:=Zba (show Rw _ _ _ _ _ _ from HS.hn.r1);obtain ⟨E2_,L2_,q2_,rfl⟩:=Zba (show Rw _ _ _ _ _ _ from HS.hn.r2);obtain ⟨E3_,L3_,q3_,rfl⟩:=Zba (show Rw _ _ _ _ _ _ from HS.hn.r3);obtain ⟨E4_,L4_,q4_,rfl⟩:=Zba (show Rw _ _ _ _ _ _ from HS.hn.r4);simp [Value.oneCell']);intro wz Nz hkz)
        refine bodyPost_ret (results_cell_row rfl _ _ (w.heap.size+1) 40 #[.int .i64 x.nodes,.int .i64 x.secret,.int .i64 x.fuel,.slice P1 x.cells.length q1,.slice P2 x.ways.length q2,.slice P3 x.slots.length q3,.slice P4 x.turns.length q4,u1,u2,u3,u4,.slice (some ⟨gs,0,none⟩) x.ways.length x.ways.length,.int .i64 0,.slice P7 x.cells.length q7] (0,0) _ rfl Nz Tryz.underlying40 rfl (by kernel_rfl)) rfl ?_
        have hO:=Zdf (HS.own hxx.hn) (fun k hk _=>hkz.block k (by assumption) (fun e=>hk.2.2.1 e))
        exact ⟨⟨_,rfl,Zbx hO (fun k hk=>hk.1)⟩,HS.hB.trans ⟨hkz.os,hkz.tape,hkz.output,hkz.size,fun b_ hb=>hkz.block b_ (by have:=HS.hB.size;omega) (fun e=>by omega)⟩⟩
end Go.Proofs.YtaeckoinpllpnaaGreat
