/- Part 26 of the proof of its last text: this session's own texts, shortened and joined by a program of its own (wip/pack.py). -/
import Derived.Test.YtaeckoinpllpnaaGreatTaa
import Derived.Test.YtaeckoinpllpnaaGreatTax
import Derived.Test.YtaeckoinpllpnaaGreatTay
set_option linter.unusedVariables false
set_option linter.unusedSimpArgs false
set_option maxHeartbeats 16000000
set_option maxRecDepth 100000
namespace Go.Proofs.YtaeckoinpllpnaaGreat
open Go.RowKit Go.Proofs.YtaeckoinpllpnaaGreatW.PrintWords Go.Proofs.YtaeckoinpllpnaaGreatW.PrintLast
theorem Zpm (x:Nod) (cs:List Value) (w:World) (hC:allK w x kNod cs) (hsm:Zzt x) :
  Calls Tryz.prog 97 #[.agg cs.toArray] w fun e w'=>(∃ cs:List Value,e=.returned (.agg cs.toArray)∧Own kNod w' (fun k=>w.heap.size≤k) x cs)∧Below w.heap.size w w':=by
 obtain ⟨l1,y1,l2,y2,l3,y3,l4,l5,l6,l7⟩:=hsm
 obtain ⟨A1,c1,A2,c2,A3,c3,A4,c4,A5,c5,A6,c6,A7,c7,rfl,-,r1,-,r2,-,r3,-,r4,-,r5,-,r6,-,r7⟩:=Zxl hC
 obtain ⟨W,eW,hb0,Np,Nr⟩:=new2 w (.cells #[.bool x.up,.int .i64 x.boot,.int .i64 x.hello,.slice A1 x.cells.length c1,.slice A2 x.out.length c2,.slice A3 x.inn.length c3,.slice A4 x.outs.length c4,.slice A5 x.ins.length c5,.slice A6 x.boots.length c6,.slice A7 x.seqs.length c7] 98) (.cells #[.bool false,.int .i64 0,.int .i64 0,.slice none 0 0,.slice none 0 0,.slice none 0 0,.slice none 0 0,.slice none 0 0,.slice none 0 0,.slice none 0 0] 98)
 go_enter Tryz.func97,Tryz.ntmps97
 go_upto_region 1 with (fail)
 refine wp_at eW ?_
 clear eW
 have hWr:w.heap.size+1<W.heap.size:=Zao Nr
 refine Zfm (n:=20) (S:=fun w1=>Below W.heap.size W w1) (ds:=[19]) #[false,false,false,false,false,false,false,false,false,false,false,false,false,false,false,false,false,false,false,false] (by kernel_rfl) rfl rfl (Zat (brf_)) (fun hWd=>?_)
 refine head2g #[false,false,false,false,false,false,false,false,false,false,false,false,false,false,false,false,false,false,false,false] #[true,false,false,false,false,false,false,false,false,false,false,false,false,false,false,false,false,false,false,false] #[true,true,false,false,false,false,false,false,false,false,false,false,false,false,false,false,false,false,false,false] 0 1 7 8 1 4 98 0 0 w.heap.size (u:=.bool x.up) ⟨rfl,rfl⟩ (by kernel_rfl) ⟨rfl,rfl,rfl⟩ ⟨rfl,rfl,rfl⟩ rfl (show 7<80 by decide) (fun w1=>by go_simp) (fun w1 hk=>by have h90:=cellsP1 (Zab Np hk);go_simp) hWd (fun _ _ _ d _ h=>by cases d <;> exact h) ?_
 refine Zbb (by simp only [Act.put,pkA,pkB,pkC];rfl) ?_
 refine head2g #[true,true,false,false,false,false,false,false,false,false,false,false,false,false,false,false,false,false,false,false] #[true,true,true,false,false,false,false,false,false,false,false,false,false,false,false,false,false,false,false,false] #[true,true,true,true,false,false,false,false,false,false,false,false,false,false,false,false,false,false,false,false] 2 3 9 10 1 3 98 1 1 w.heap.size (u:=.int .i64 x.boot) ⟨rfl,rfl⟩ (by kernel_rfl) ⟨rfl,rfl,rfl⟩ ⟨rfl,rfl,rfl⟩ rfl (show 9<80 by decide) (fun w1=>by go_simp) (fun w1 hk=>by obtain ⟨-,h91⟩:=cellsP2 (Zab Np hk);go_simp) hWd (fun _ _ _ d _ h=>by cases d <;> exact h) ?_
 refine Zbb (by simp only [Act.put,pkA,pkB,pkC];rfl) ?_
 refine head2g #[true,true,true,true,false,false,false,false,false,false,false,false,false,false,false,false,false,false,false,false] #[true,true,true,true,true,false,false,false,false,false,false,false,false,false,false,false,false,false,false,false] #[true,true,true,true,true,true,false,false,false,false,false,false,false,false,false,false,false,false,false,false] 4 5 11 12 1 3 98 2 2 w.heap.size (u:=.int .i64 x.hello) ⟨rfl,rfl⟩ (by kernel_rfl) ⟨rfl,rfl,rfl⟩ ⟨rfl,rfl,rfl⟩ rfl (show 11<80 by decide) (fun w1=>by go_simp) (fun w1 hk=>by obtain ⟨-,-,h92⟩:=cellsP3 (Zab Np hk);go_simp) hWd (fun _ _ _ d _ h=>by cases d <;> exact h) ?_
 refine Zbb (by simp only [Act.put,pkA,pkB,pkC];rfl) ?_
 refine head2g #[true,true,true,true,true,true,false,false,false,false,false,false,false,false,false,false,false,false,false,false] #[true,true,true,true,true,true,false,true,false,false,false,false,false,false,false,false,false,false,false,false] #[true,true,true,true,true,true,false,true,true,false,false,false,false,false,false,false,false,false,false,false] 7 8 14 15 1 93 98 6 6 w.heap.size (u:=.slice A4 x.outs.length c4) ⟨rfl,rfl⟩ (by kernel_rfl) ⟨rfl,rfl,rfl⟩ ⟨rfl,rfl,rfl⟩ rfl (show 14<80 by decide) (fun w1=>by go_simp) (fun w1 hk=>by obtain ⟨-,-,-,-,-,-,h96⟩:=cellsP7 (Zab Np hk);go_simp) hWd (fun _ _ _ d _ h=>by cases d <;> exact h) ?_
 refine Zbb (by simp only [Act.put,pkA,pkB,pkC];rfl) ?_
 refine head2g #[true,true,true,true,true,true,false,true,true,false,false,false,false,false,false,false,false,false,false,false] #[true,true,true,true,true,true,false,true,true,false,false,true,false,false,false,false,false,false,false,false] #[true,true,true,true,true,true,false,true,true,false,false,true,true,false,false,false,false,false,false,false] 11 12 18 19 1 94 98 7 7 w.heap.size (u:=.slice A5 x.ins.length c5) ⟨rfl,rfl⟩ (by kernel_rfl) ⟨rfl,rfl,rfl⟩ ⟨rfl,rfl,rfl⟩ rfl (show 18<80 by decide) (fun w1=>by go_simp) (fun w1 hk=>by obtain ⟨-,-,-,-,-,-,-,h97⟩:=cellsP8 (Zab Np hk);go_simp) hWd (fun _ _ _ d _ h=>by cases d <;> exact h) ?_
 refine Zbb (by simp only [Act.put,pkA,pkB,pkC];rfl) ?_
 refine head2g #[true,true,true,true,true,true,false,true,true,false,false,true,true,false,false,false,false,false,false,false] #[true,true,true,true,true,true,false,true,true,false,false,true,true,false,true,false,false,false,false,false] #[true,true,true,true,true,true,false,true,true,false,false,true,true,false,true,true,false,false,false,false] 14 15 21 22 1 96 98 8 8 w.heap.size (u:=.agg #[.slice A6 x.boots.length c6,.slice A7 x.seqs.length c7]) ⟨rfl,rfl⟩ (by kernel_rfl) ⟨rfl,rfl,rfl⟩ ⟨rfl,rfl,rfl⟩ rfl (show 21<80 by decide) (fun w1=>by go_simp) (fun w1 hk=>by obtain ⟨-,-,-,-,-,-,-,-,h98,h99⟩:=cellsP10 (Zab Np hk);go_simp) hWd (fun _ _ _ d _ h=>by cases d <;> exact h) ?_
 refine Zbb (by simp only [Act.put,pkA,pkB,pkC];rfl) ?_
 refine Zia 80 W.heap.size [6,9,13,16,17] 10 18 2 1000 17 3 (fun m=>if m=0 then 13 else if m=1 then 16 else if m=2 then 20 else if m=3 then 23 else 24) (fun g=>.slice (some ⟨g,0,none⟩) 0 0) (fun g=>.pointer (some ⟨g,0,none⟩)) (.cells #[] 170) (.cells #[.bool false,.int .i64 0,.int .i64 0,.slice none 0 0,.slice none 0 0,.slice none 0 0,.slice none 0 0,.slice none 0 0,.slice none 0 0,.slice none 0 0] 98) (fun m b1 b2=>#[true,true,true,true,true,true,decide (1≤m),true,true,decide (2≤m),b1,true,true,decide (3≤m),true,true,decide (4≤m),decide (5≤m),b2,false]) 1 (fun m a wx T=>a.tmps.size=80∧Sl [(1,.pointer (some ⟨w.heap.size,0,none⟩)),(2,.pointer (some ⟨w.heap.size+1,0,none⟩)),(8,.bool x.up),(10,.int .i64 x.boot),(12,.int .i64 x.hello),(15,.slice A4 x.outs.length c4),(19,.slice A5 x.ins.length c5),(22,.agg #[.slice A6 x.boots.length c6,.slice A7 x.seqs.length c7])] a∧Below W.heap.size W wx∧(∀ k,T k→W.heap.size≤k)∧(m=1→∃ g0,a.eval (.tmp 13)=.slice (some ⟨g0,0,none⟩) 0 0∧Rw Zhm 167 wx (fun k=>k=g0) (.slice (some ⟨g0,0,none⟩) 0 0) []∧T g0)∧(2≤m→∃ B4 L4 d4 T4,a.eval (.tmp 16)=.slice B4 L4 d4∧Rw Zhm 167 wx T4 (.slice B4 L4 d4) x.outs∧(∀ k,T4 k→T k)∧(3≤m→∃ B5 L5 d5 T5,a.eval (.tmp 20)=.slice B5 L5 d5∧Rw kInI 170 wx T5 (.slice B5 L5 d5) x.ins∧(∀ k,T5 k→T k∧¬T4 k)∧(4≤m→∃ B6 L6 d6 B7 L7 d7,∃ (T6:Nat→Prop) (f6:Nat→Nat),a.eval (.tmp 23)=.agg #[.slice B6 L6 d6,.slice B7 L7 d7]∧Rw kInt 3 wx (fun k=>T6 k∧f6 k=8) (.slice B6 L6 d6) x.boots∧Rw kInt 3 wx (fun k=>T6 k∧f6 k=9) (.slice B7 L7 d7) x.seqs∧(∀ k,T6 k→T k∧¬T4 k∧¬T5 k)∧(5≤m→a.eval (.tmp 24)=.agg #[.bool x.up,.int .i64 x.boot,.int .i64 x.hello,.slice none 0 0,.slice none 0 0,.slice none 0 0,.slice B4 L4 d4,.slice B5 L5 d5,.slice B6 L6 d6,.slice B7 L7 d7]))))) true true (by kernel_rfl) ?hsz ?ht ?hlo ?hS _ ?st1 ?st2 ?hn1 ?hn2 ?hc ?hend 7 0 false false (fun _=>undef) _ _ (fun _=>False) 0 0 rfl (by decide) rfl (fun h=>by cases h) (fun h=>by cases h) (fun _=>rfl) (fun h=>by simp at h) ?hin (fun _ h=>h.elim) (fun _ h=>by cases h) (fun _ h=>by cases h) (fun _ _ h=>by cases h)
 case hsz=>exact fun m a wx T h=>h.1
 case ht=>exact ⟨by decide,by decide,by decide,fun m=>by split <;> (try split) <;> (try split) <;> (try split) <;> decide⟩
 case hlo=>exact fun m a wx T h=>h.2.2.1.size
 case hS=>exact fun m a wx T h=>h.2.2.1
 case st1 =>
  rintro m a wx T ⟨h1,h2,h3,h4,h5,h6⟩ hT
  have hb9:Below wx.heap.size wx (wx.alloc (.cells #[] 170)):=(brf_).alloc nlr_ _
  refine ⟨by rw [Zcb];exact h1,h2.put (by kernel_rfl),h3.alloc h3.size _,h4,fun e=>?_,fun e=>?_⟩
  ·obtain ⟨g0,q1,q2,q3⟩:=h5 e
   exact ⟨g0,(Zaq (by decide)).trans q1,Zaj q2 hb9,q3⟩
  ·obtain ⟨B4,L4,d4,T4,q1,q2,q3,q4⟩:=h6 e
   refine ⟨B4,L4,d4,T4,(Zaq (by decide)).trans q1,Zaj q2 hb9,q3,fun e=>?_⟩
   obtain ⟨B5,L5,d5,T5,z1,z2,z3,z4⟩:=q4 e
   refine ⟨B5,L5,d5,T5,(Zaq (by decide)).trans z1,Zaj z2 hb9,z3,fun e=>?_⟩
   obtain ⟨B6,L6,d6,B7,L7,d7,T6,f6,o1,o2,o3,o4,o5⟩:=z4 e
   exact ⟨B6,L6,d6,B7,L7,d7,T6,f6,(Zaq (by decide)).trans o1,Zaj o2 hb9,Zaj o3 hb9,o4,fun e=>(Zaq (by decide)).trans (o5 e)⟩
 case st2 =>
  rintro m a wx T ⟨h1,h2,h3,h4,h5,h6⟩ hT
  have hb9:Below wx.heap.size wx (wx.alloc (.cells #[.bool false,.int .i64 0,.int .i64 0,.slice none 0 0,.slice none 0 0,.slice none 0 0,.slice none 0 0,.slice none 0 0,.slice none 0 0,.slice none 0 0] 98)):=(brf_).alloc nlr_ _
  refine ⟨by rw [Zcb];exact h1,h2.put (by kernel_rfl),h3.alloc h3.size _,h4,fun e=>?_,fun e=>?_⟩
  ·obtain ⟨g0,q1,q2,q3⟩:=h5 e
   exact ⟨g0,(Zaq (by decide)).trans q1,Zaj q2 hb9,q3⟩
  ·obtain ⟨B4,L4,d4,T4,q1,q2,q3,q4⟩:=h6 e
   refine ⟨B4,L4,d4,T4,(Zaq (by decide)).trans q1,Zaj q2 hb9,q3,fun e=>?_⟩
   obtain ⟨B5,L5,d5,T5,z1,z2,z3,z4⟩:=q4 e
   refine ⟨B5,L5,d5,T5,(Zaq (by decide)).trans z1,Zaj z2 hb9,z3,fun e=>?_⟩
   obtain ⟨B6,L6,d6,B7,L7,d7,T6,f6,o1,o2,o3,o4,o5⟩:=z4 e
   exact ⟨B6,L6,d6,B7,L7,d7,T6,f6,(Zaq (by decide)).trans o1,Zaj o2 hb9,Zaj o3 hb9,o4,fun e=>(Zaq (by decide)).trans (o5 e)⟩
 case hn1=>exact fun _ m a wx T h=>⟨_,rfl,rfl,rfl,by unfold execOp;go_simp⟩
 case hn2=>exact fun _ m a wx T h=>⟨_,rfl,rfl,rfl,by unfold execOp;go_simp⟩
 case hc =>
  intro m i hi a wx T g1 g2 ⟨h1,h2,h3,h4,h5,h6⟩ hT hu1 _
  match m,hi with
  | 0,hi =>
   obtain rfl:=Option.some.inj hi
   refine ⟨_,rfl,rfl,rfl,fun K hK=>?_⟩
   refine Zgd (t:=13) (v:=.slice (some ⟨wx.heap.size,0,none⟩) 0 0) (w1:=wx.alloc (.cells #[] 167)) rfl rfl (by unfold execOp;go_simp) ?_
   have hsz:=Zcq wx (.cells #[] 167)
   refine hK _ _ (fun k=>k=wx.heap.size) ⟨by rw [Zcb];exact h1,h2.put (by kernel_rfl),h3.alloc h3.size _,fun k hk=>by have:=h3.size;omega,fun _=>⟨_,Zco (by rw [h1];decide),Zfl _ _ _ _ rfl,rfl⟩,fun e=>by omega⟩ (fun k hk=>by omega) (by omega) (fun k hk=>Or.inr (Or.inl (by omega))) (fun k hk _ _ _=>Below.heap_alloc _ _ _ hk)
  | 1,hi =>
   obtain rfl:=Option.some.inj hi
   obtain ⟨g0,q1,q2,q3⟩:=h5 rfl
   have hg0:=hT g0 q3
   refine ⟨_,rfl,rfl,rfl,fun K hK=>?_⟩
   refine Zdj Zhm Yae rfl (.tmp 13) (.tmp 15) 93 167 _ _ rfl Tryz.underlying93 Zyn rfl (by decide) (by omega) g0 _ x.outs A4 c4 q1 (h2 (15,_) (by simp)) q2 hg0 (Zac (Zac r4 hb0) h3) (by omega) ?_
   intro v1 w1 hR hs hm hbl
   obtain ⟨B,L9,d,rfl⟩:=Zba hR
   refine hK _ _ (fun k=>k<w1.heap.size∧(k=g0∨wx.heap.size≤k)) ⟨by rw [Zcb];exact h1,h2.put (by kernel_rfl),h3.trans (hbl.mono (h4 g0 q3)),fun k hk=>by have:=h4 g0 q3;have:=h3.size;omega,fun e=>by omega,fun _=>⟨B,L9,d,_,Zco (by rw [h1];decide),Zae (Zaf hR) (fun k hk=>⟨hk.2,hk.1⟩),fun _ h=>h,fun e=>by omega⟩⟩ (fun k hk=>hk.1) hs (fun k hk=>hk.2.elim (fun e=>Or.inl (by rw [e];exact q3)) (fun e=>Or.inr (Or.inl e))) (fun k hk hn _ _=>hm k hk (fun e=>hn (by rw [e];exact q3)))
  | 2,hi =>
   obtain rfl:=Option.some.inj hi
   obtain ⟨B4,L4,d4,T4,q1,q2,q3,q4⟩:=h6 (by omega)
   obtain ⟨n1,n2,n3,n4,n5⟩:=hu1 rfl
   refine ⟨_,rfl,rfl,rfl,fun K hK=>?_⟩
   have hlit:Rw kInI 170 wx (fun k=>k=g1) (.slice (some ⟨g1,0,none⟩) 0 0) []:=Zum n2
   refine Zdj kInI fInI rfl (.tmp 17) (.tmp 19) 94 170 _ _ rfl Tryz.underlying94 iInI rfl (by decide) (by omega) g1 _ x.ins A5 c5 n1 (h2 (19,_) (by simp)) hlit n4 (Zac (Zac r5 hb0) h3) (by omega) ?_
   intro v1 w1 hR hs hm hbl
   obtain ⟨B,L9,d,rfl⟩:=Zba hR
   refine hK _ _ (fun k=>T k∨(k<w1.heap.size∧(k=g1∨wx.heap.size≤k))) ⟨by rw [Zcb];exact h1,h2.put (by kernel_rfl),h3.trans (hbl.mono n5),fun k hk=>hk.elim (fun h=>h4 k h) (fun h=>by have:=h3.size;omega),fun e=>by omega,fun _=>⟨B4,L4,d4,T4,(Zaq (by decide)).trans q1,Zah q2 (fun k hk hl=>hm k hl (fun e=>n3 (by rw [← e];exact q3 k hk))),fun k hk=>Or.inl (q3 k hk),fun _=>⟨B,L9,d,_,Zco (by rw [h1];decide),Zae (Zaf hR) (fun k hk=>⟨hk.2,hk.1⟩),fun k hk=>⟨Or.inr hk,fun h9=>by have:=hT k (q3 k h9);exact hk.2.elim (fun e=>n3 (by rw [← e];exact q3 k h9)) (fun e=>by omega)⟩,fun e=>by omega⟩⟩⟩ (fun k hk=>hk.elim (fun h=>by have:=hT k h;omega) (fun h=>h.1)) hs (fun k hk=>hk.elim Or.inl (fun h=>h.2.elim (fun e=>Or.inr (Or.inr (Or.inl ⟨rfl,e⟩))) (fun e=>Or.inr (Or.inl e)))) (fun k hk _ hn _=>hm k hk (fun e=>hn ⟨rfl,e⟩))
  | 3,hi =>
   obtain rfl:=Option.some.inj hi
   obtain ⟨B4,L4,d4,T4,q1,q2,q3,q4⟩:=h6 (by omega)
   obtain ⟨B5,L5,d5,T5,z1,z2,z3,z4⟩:=q4 (by omega)
   refine ⟨_,rfl,rfl,rfl,fun K hK=>?_⟩
   have e22:a.eval (.tmp 22)=.agg #[.slice A6 x.boots.length c6,.slice A7 x.seqs.length c7]:=h2 (22,_) (by simp)
   refine Zfw Tryz.func131 (by kernel_rfl) rfl #[.agg #[.slice A6 x.boots.length c6,.slice A7 x.seqs.length c7]] (Zbn rfl) rfl rfl (by simp only [List.map_toArray,List.map_cons,List.map_nil,e22]) ?_
   have hB:=hb0.trans (h3.mono hb0.size)
   refine (Zpk A6 A7 c6 c7 x.boots x.seqs wx (Zac r6 hB) (Zac r7 hB) l6 l7).mono ?_
   rintro e w3 ⟨⟨v6,v7,f6,rfl,hO1,hO2⟩,hb8⟩
   obtain ⟨B6,L6,d6,rfl⟩:=Zba hO1
   obtain ⟨B7,L7,d7,rfl⟩:=Zba hO2
   have hs8:=hb8.size
   have hs3:=h3.size
   refine ⟨_,rfl, ?_⟩
   refine hK _ _ (fun k=>T k∨(wx.heap.size≤k∧k<w3.heap.size)) ⟨by rw [Zcb];exact h1,h2.put (by kernel_rfl),h3.trans (hb8.mono h3.size),fun k hk=>hk.elim (fun h=>h4 k h) (fun h=>by omega),fun e=>by omega,fun _=>⟨B4,L4,d4,T4,(Zaq (by decide)).trans q1,Zah q2 (fun k hk hl=>hb8.block k hl),fun k hk=>Or.inl (q3 k hk),fun _=>⟨B5,L5,d5,T5,(Zaq (by decide)).trans z1,Zah z2 (fun k hk hl=>hb8.block k hl),fun k hk=>⟨Or.inl (z3 k hk).1,(z3 k hk).2⟩,fun _=>⟨B6,L6,d6,B7,L7,d7,(fun k=>wx.heap.size≤k∧k<w3.heap.size),f6,Zco (by rw [h1];decide),Zae (Zaf hO1) (fun k hk=>⟨⟨hk.1.1,hk.2⟩,hk.1.2⟩),Zae (Zaf hO2) (fun k hk=>⟨⟨hk.1.1,hk.2⟩,hk.1.2⟩),fun k hk=>⟨Or.inr hk,fun h9=>by have:=hT k (q3 k h9);omega,fun h9=>by have:=hT k (z3 k h9).1;omega⟩,fun e=>by omega⟩⟩⟩⟩ (fun k hk=>hk.elim (fun h=>by have:=hT k h;omega) (fun h=>h.2)) hb8.size (fun k hk=>hk.elim Or.inl (fun h=>Or.inr (Or.inl h.1))) (fun k hk _ _ _=>hb8.block k hk)
  | 4,hi =>
   obtain rfl:=Option.some.inj hi
   obtain ⟨B4,L4,d4,T4,q1,q2,q3,q4⟩:=h6 (by omega)
   obtain ⟨B5,L5,d5,T5,z1,z2,z3,z4⟩:=q4 (by omega)
   obtain ⟨B6,L6,d6,B7,L7,d7,T6,f6,o1,o2,o3,o4,o5⟩:=z4 (by omega)
   refine ⟨_,rfl,rfl,rfl,fun K hK=>?_⟩
   have e8:a.eval (.tmp 8)=.bool x.up:=h2 (8,_) (by simp)
   have e10:a.eval (.tmp 10)=.int .i64 x.boot:=h2 (10,_) (by simp)
   have e12:a.eval (.tmp 12)=.int .i64 x.hello:=h2 (12,_) (by simp)
   refine Zgd (t:=24) (v:=.agg #[.bool x.up,.int .i64 x.boot,.int .i64 x.hello,.slice none 0 0,.slice none 0 0,.slice none 0 0,.slice B4 L4 d4,.slice B5 L5 d5,.slice B6 L6 d6,.slice B7 L7 d7]) (w1:=wx) rfl rfl (by revert q1 z1 o1 e8 e10 e12;unfold execOp;generalize a.eval=ρ;intro q1 z1 o1 e8 e10 e12;go_simp <;> rfl) ?_
   exact hK _ _ T ⟨by rw [Zcb];exact h1,h2.put (by kernel_rfl),h3,h4,fun e=>by omega,fun _=>⟨B4,L4,d4,T4,(Zaq (by decide)).trans q1,q2,q3,fun _=>⟨B5,L5,d5,T5,(Zaq (by decide)).trans z1,z2,z3,fun _=>⟨B6,L6,d6,B7,L7,d7,T6,f6,(Zaq (by decide)).trans o1,o2,o3,o4,fun _=>Zco (by rw [h1];decide)⟩⟩⟩⟩ hT nlr_ (fun k hk=>Or.inl hk) (fun k _ _ _ _=>rfl)
 case hin=>exact ⟨rfl,fun p hp=>by simp only [List.mem_cons,List.not_mem_nil,or_false] at hp;rcases hp with rfl | rfl | rfl | rfl | rfl | rfl | rfl | rfl <;> rfl,hWd,fun _ h=>h.elim,fun e=>by omega,fun e=>by omega⟩
 case hend =>
  intro cv g9 g a wx T ha ⟨h1,h2,h3,h4,h5,h6⟩ hT _ hn2 _
  obtain ⟨B4,L4,d4,T4,q1,q2,q3,q4⟩:=h6 (by decide)
  obtain ⟨B5,L5,d5,T5,z1,z2,z3,z4⟩:=q4 (by decide)
  obtain ⟨B6,L6,d6,B7,L7,d7,T6,f6,o1,o2,o3,o4,o5⟩:=z4 (by decide)
  have o5:=o5 (by decide)
  obtain ⟨k1,k2,k3,k4,k5⟩:=hn2 rfl (by decide)
  refine Znl (i:=19) (N:=none) #[true,true,true,true,true,true,true,true,true,true,true,true,true,true,true,true,true,true,true,true] rfl rfl (by kernel_rfl) (by decide) (fun K hK=>?_)
  refine Zgx rfl rfl 98 (.tmp 3) (.tmp 24) rfl g #[.bool x.up,.int .i64 x.boot,.int .i64 x.hello,.slice none 0 0,.slice none 0 0,.slice none 0 0,.slice B4 L4 d4,.slice B5 L5 d5,.slice B6 L6 d6,.slice B7 L7 d7] k1 o5 98 #[.bool false,.int .i64 0,.int .i64 0,.slice none 0 0,.slice none 0 0,.slice none 0 0,.slice none 0 0,.slice none 0 0,.slice none 0 0,.slice none 0 0] k2 (by kernel_rfl) rfl (by simp [Value.oneCell']) (fun w9 Ng hk=>?_)
  refine hK.out _ _ ?_
  clear hK K
  refine Zgw (by kernel_rfl) ?_
  subst ha
  simp only [canB,Zqg,canC,List.length_cons,List.length_nil,if_true,if_false,Bool.false_eq_true,Nat.zero_add,Nat.reduceAdd,Nat.reduceEqDiff]
  simp only [Act.put,pkA,pkB,pkC]
  generalize cv 0=vz0;generalize cv 1=vz1;generalize cv 2=vz2;generalize cv 3=vz3;generalize cv 4=vz4
  have hWs:=h3.size
  have hgg:w.heap.size+1<g:=by omega
  have hw9:Below W.heap.size W w9:=h3.trans ⟨hk.os,hk.tape,hk.output,hk.size,fun k hk1=>hk.block k (by omega) (fun e=>by omega)⟩
  have HB:=hb0.trans (hw9.mono hb0.size)
  replace Nr:=Zab Nr hw9
  replace Np:=Zab Np hw9
  have hmv:∀ k,T k→k<wx.heap.size→w9.heap[k]? = wx.heap[k]? := fun k hk1 hl=>hk.block k hl (fun e=>k3 (by rw [← e];exact hk1))
  have hTS:∀ k,T k→(fun k=>w.heap.size≤k∧k≠w.heap.size∧k≠w.heap.size+1∧k≠g) k:=fun k hk1=>by have:=h4 k hk1;exact ⟨by omega,by omega,by omega,fun e=>k3 (by rw [← e];exact hk1)⟩
  have HN:∃ f,P8 w9 (fun k=>w.heap.size≤k∧k≠w.heap.size∧k≠w.heap.size+1∧k≠g) f (pRw Zby 103 (.slice none 0 0) ([])) (pRw kBox 109 (.slice none 0 0) ([])) (pRw kBox 109 (.slice none 0 0) ([])) (pRw Zhm 167 (.slice B4 L4 d4) (x.outs)) (pRw kInI 170 (.slice B5 L5 d5) (x.ins)) (pRw kInt 3 (.slice B6 L6 d6) (x.boots)) (pRw kInt 3 (.slice B7 L7 d7) (x.seqs)) Zbw:=by
   classical
   refine ⟨fun k=>if T4 k then 3 else if T5 k then 4 else if f6 k=8 then 5 else 6,Zbq _ _ _ _,Zbq _ _ _ _,Zbq _ _ _ _,Zae (Zah q2 (fun k hk1=>hmv k (q3 k hk1))) (fun k hk1=>⟨hTS k (q3 k hk1),if_pos hk1⟩),Zae (Zah z2 (fun k hk1=>hmv k (z3 k hk1).1)) (fun k hk1=>⟨hTS k (z3 k hk1).1,(if_neg (z3 k hk1).2).trans (if_pos hk1)⟩),Zae (Zah o2 (fun k hk1=>hmv k (o4 k hk1.1).1)) (fun k hk1=>⟨hTS k (o4 k hk1.1).1,(if_neg (o4 k hk1.1).2.1).trans ((if_neg (o4 k hk1.1).2.2).trans (if_pos hk1.2))⟩),Zae (Zah o3 (fun k hk1=>hmv k (o4 k hk1.1).1)) (fun k hk1=>⟨hTS k (o4 k hk1.1).1,(if_neg (o4 k hk1.1).2.1).trans ((if_neg (o4 k hk1.1).2.2).trans (if_neg (by rw [hk1.2];decide)))⟩),trivial,pcRw _ _ _ _,pcRw _ _ _ _,pcRw _ _ _ _,pcRw _ _ _ _,pcRw _ _ _ _,pcRw _ _ _ _,pcRw _ _ _ _,Zet⟩
  obtain ⟨f,HN⟩:=HN
  clear h1 h2 h4 h5 h6 hT hn2 q1 q2 q3 q4 z1 z2 z3 z4 o1 o2 o3 o4 o5 k1 k2 k3 k4 k5 hk hw9 hWd hWs hmv hTS h3
  generalize Value.slice B4 L4 d4=e4 at *;generalize Value.slice B5 L5 d5=e5 at *;generalize Value.slice B6 L6 d6=e6 at *;generalize Value.slice B7 L7 d7=e7 at *
  go_wp2
  go_loopw [4] (fun i wr=>∃ (k:Nat) (u1:Value) (f:Nat→Nat),k≤x.cells.length∧i=.int .i64 k∧wr.heap[g]? = some (.cells #[.bool x.up,.int .i64 x.boot,.int .i64 x.hello,u1,.slice none 0 0,.slice none 0 0,e4,e5,e6,e7] 98 (0,0))∧wr.heap[w.heap.size+1]? = some (.cells #[.bool false,.int .i64 0,.int .i64 0,.slice none 0 0,.slice none 0 0,.slice none 0 0,.slice none 0 0,.slice none 0 0,.slice none 0 0,.slice none 0 0] 98 (0,0))∧wr.heap[w.heap.size]? = some (.cells #[.bool x.up,.int .i64 x.boot,.int .i64 x.hello,.slice A1 x.cells.length c1,.slice A2 x.out.length c2,.slice A3 x.inn.length c3,.slice A4 x.outs.length c4,.slice A5 x.ins.length c5,.slice A6 x.boots.length c6,.slice A7 x.seqs.length c7] 98 (0,0))∧P8 wr (fun k=>w.heap.size≤k∧k≠w.heap.size∧k≠w.heap.size+1∧k≠g) f (pRw Zby 103 (u1) (x.cells.take k)) (pRw kBox 109 (.slice none 0 0) ([])) (pRw kBox 109 (.slice none 0 0) ([])) (pRw Zhm 167 (e4) (x.outs)) (pRw kInI 170 (e5) (x.ins)) (pRw kInt 3 (e6) (x.boots)) (pRw kInt 3 (e7) (x.seqs)) Zbw∧Below w.heap.size w wr) (fun i _=>x.cells.length-(intOf i).toNat)
  case atStart=>exact ⟨0,_,_,Nat.zero_le _,rfl,Ng,Nr,Np,HN,HB⟩
  case round =>
   clear Ng Nr Np HN HB
   obtain ⟨k,u1,f,hk,rfl,Ng,Nr,Np,HN,HB⟩:=hrel
   have hgl:=Zao Ng
   obtain ⟨-,-,-,p9⟩:=cellsP4 Np
   by_cases hlt:k<x.cells.length
   ·obtain ⟨z,hz9⟩:=Zar x.cells hlt
    have hsz:_∧_∧_:=y1 k z hz9
    obtain ⟨ad,cs0,eA,hk0,h0,hi⟩:=Zce r1 hz9
    have hkk:=hk0
    obtain ⟨B1,d1,B2,d2,B3,d3,rfl,-,-,-,-,-,-⟩:=Zfp hkk
    have z0:w.cell? (ad.add (k*5))=some (.int .i64 z.pc):=h0 _ rfl
    have z1:w.cell? ⟨(ad.add (k*5)).block,(ad.add (k*5)).off+1,none⟩=some (.slice B1 z.regs.length d1):=hi 1 _ (by decide) rfl
    have z2:w.cell? ⟨(ad.add (k*5)).block,(ad.add (k*5)).off+2,none⟩=some (.slice B2 z.mem.length d2):=hi 2 _ (by decide) rfl
    have z3:w.cell? ⟨(ad.add (k*5)).block,(ad.add (k*5)).off+3,none⟩=some (.int .i64 z.halt):=hi 3 _ (by decide) rfl
    have z4:w.cell? ⟨(ad.add (k*5)).block,(ad.add (k*5)).off+4,none⟩=some (.slice B3 z.inn.length d3):=hi 4 _ (by decide) rfl
    clear h0 hi hkk
    have hsrc:=World.block_lt_of_cell? _ _ z0
    replace z0:=Zaa HB z0
    replace z1:=Zaa HB z1
    replace z2:=Zaa HB z2
    replace z3:=Zaa HB z3
    replace z4:=Zaa HB z4
    replace hk0:=Zai HB hk0
    subst eA
    clear p9
    obtain ⟨-,-,-,p⟩:=cellsP4 Np
    go_wp2_with (fail)
    clear p
    have hgu:some g≠u1.ownBlock:=(fun e=>by have:=((Zca HN.r0) _ e.symm).1;(try dsimp only at this);omega)
    have hpu:some w.heap.size≠u1.ownBlock:=(fun e=>by have:=((Zca HN.r0) _ e.symm).1;(try dsimp only at this);omega)
    have hym:some (ad.add (k*5)).block≠u1.ownBlock:=fun e=>by have:=((Zca HN.r0) _ e.symm).1;have hh:=hsrc;(try dsimp only at this hh);omega
    refine Zcf 12 u1.ownBlock [11] (by kernel_rfl) rfl rfl ?_
    intro Wd hd hs
    have Ng_d:=Zab Ng hd
    have Nr_d:=Zab Nr hd
    have Np_d:=Zab Np hd
    have z0:=Zaa hd z0
    have z1:=Zaa hd z1
    have z2:=Zaa hd z2
    have z3:=Zaa hd z3
    have z4:=Zaa hd z4
    have HNd:=HN.step (w1:=Wd) (fun k _ hl=>hd.block k hl)
    have HB_d:=HB.trans (hd.mono HB.size)
    refine head2 12 0 32 33 3 35 98 3 3 g (u:=u1) ⟨rfl,rfl⟩ (by kernel_rfl) ⟨rfl,rfl,rfl⟩ ⟨rfl,rfl,rfl⟩ rfl (show 32<80 by decide) (fun w1=>by go_simp) (fun w1 h=>by go_simp) (fun w1 hk=>hk.cell Ng_d hgu rfl) (Zbc.refl _ _) (fun _ _ _ d _ h=>by cases d <;> exact h) ?_
    refine Zbb (by simp only [Act.put,pkA,pkB,pkC];rfl) ?_
    refine head2 12 2 34 35 1 35 98 3 3 w.heap.size (u:=.slice (some ad) x.cells.length c1) ⟨rfl,rfl⟩ (by kernel_rfl) ⟨rfl,rfl,rfl⟩ ⟨rfl,rfl,rfl⟩ rfl (show 34<80 by decide) (fun w1=>by go_simp) (fun w1 h=>by go_simp) (fun w1 hk=>hk.cell Np_d hpu rfl) (Zbc.refl _ _) (fun _ _ _ d _ h=>by cases d <;> exact h) ?_
    refine Zbb (by simp only [Act.put,pkA,pkB,pkC];rfl) ?_
    refine mv1 12 4 36 4 rfl (by kernel_rfl) ⟨rfl,rfl,rfl⟩ rfl (fun _ _ _ d _ h=>by cases d <;> exact h) ?_
    refine Zbb (by simp only [Act.put,pkA,pkB,pkC];rfl) ?_
    refine Zap (i:=5) (N:=some 37) (v:=.pointer (some (ad.add (k*5)))) (upB 12 6) rfl rfl (by kernel_rfl) (fun _ _ _ h=>h) (Or.inl ⟨by rfl,fun w1=>by go_simp⟩) (by simp only [Act.put,pkA,pkB,pkC];rfl) ?_
    refine Zbz (i:=6) (N:=some 38) (v:=.agg #[.int .i64 z.pc,.slice B1 z.regs.length d1,.slice B2 z.mem.length d2,.int .i64 z.halt,.slice B3 z.inn.length d3]) (upB 12 7) rfl rfl (by kernel_rfl) (fun _ _ _ h=>h) (Or.inl ⟨by rfl,fun w1 hk=>by have y0:=hk.at_ z0 hym;have y1:=hk.at_ z1 hym;have y2:=hk.at_ z2 hym;have y3:=hk.at_ z3 hym;have y4:=hk.at_ z4 hym;go_simp⟩) (Zbc.refl _ _) (by simp only [Act.put,pkA,pkB,pkC];rfl) ?_
    have hkd:=Zai hd hk0
    refine Zdt 12 7 39 (fun v w1=>∃ cs:List Value,v=.agg cs.toArray∧Own Zby w1 (fun k=>Wd.heap.size≤k) z cs) rfl (by decide) (by kernel_rfl) rfl rfl rfl Tryz.func132 (by kernel_rfl) rfl #[.agg #[.int .i64 z.pc,.slice B1 z.regs.length d1,.slice B2 z.mem.length d2,.int .i64 z.halt,.slice B3 z.inn.length d3]] (by (try simp only [List.map_toArray,List.map_cons,List.map_nil]);first | done | rfl) ((Zpi z _ Wd hkd hsz.1 hsz.2.1 hsz.2.2).mono (fun e w9 h=>⟨match h.1 with | ⟨cs,he,ho⟩=>⟨_,he,cs,rfl,ho⟩,h.2⟩)) (Zbc.refl _ _) nlr_ ?_
    rintro v w1 ⟨cs1,rfl,hp⟩ hb1 hk1
    have hp9:=hp
    obtain ⟨u1_,u2_,u3_,f9,rfl,-,-,-⟩:=Zfz hp9
    refine Zbb (by simp only [Act.put,pkA,pkB,pkC];rfl) ?_
    have hsz1:=hb1.size
    have HB_1:=HB_d.trans (hb1.mono HB_d.size)
    refine Zcl Zby (w0:=w) 12 8 33 39 40 41 42 3 35 103 98 3 3 80 g (u:=u1) (xs:=x.cells.take k) (fun k=>(fun k=>w.heap.size≤k∧k≠w.heap.size∧k≠w.heap.size+1∧k≠g) k∧((k<Wd.heap.size∧f k=0)∨Wd.heap.size≤k)) (fun k=>Wd.heap.size≤k) ⟨rfl,rfl,rfl,rfl⟩ (by kernel_rfl) ⟨rfl,rfl,rfl⟩ ⟨rfl,rfl,rfl⟩ ⟨rfl,rfl,rfl⟩ ⟨rfl,rfl,rfl⟩ rfl (by decide) rfl rfl (fun w1=>by go_simp <;> (constructor <;> rfl)) (fun w1=>by go_simp) Tryz.underlying35 Zsw rfl (by decide) (by omega) (fun _=>by go_simp) hp ?aO ?aT ?aS ?aF HB_1 ?aL hk1 hb1.size Ng_d (show 3<10 by decide) hgu (fun _ _ _ d _ h=>by cases d <;> exact h) ?_
    (case aO=>exact Zae (Zaj (Zaf HNd.r0) hb1) (fun k hk=>by (try dsimp only at hk ⊢);omega))
    (case aT=>exact fun k hk=>by (try dsimp only at hk ⊢);omega)
    (case aS=>exact fun k hk=>by (try dsimp only at hk ⊢);omega)
    (case aF=>exact fun k hk=>by (try dsimp only at hk ⊢);omega)
    (case aL=>simp;omega)
    rintro B9 L9 d w2 vA vB-hR HB2 hgr hk2 -
    have hob:=fun q (e:u1.ownBlock=some q)=>((Zca HNd.r0) q e).1
    have HN3:=(HNd.app0 hb1 hgr (fun q e=>(hob q e).2) (pcRw _ _ _ _) hR).step (w1:=w2.setCell ⟨g,3,none⟩ (.slice B9 L9 d)) (fun b_ hk _=>Below.heap_setCell w2 ⟨g,3,none⟩ (.slice B9 L9 d) b_ (by (try dsimp only at hk ⊢);omega))
    have Ng3:=Zau ((hk2 g (Zao Ng_d) hgu).trans Ng_d) 3 (.slice B9 L9 d)
    have Nr3:=Zav (p:=⟨g,3,none⟩) ((hk2 _ (Zao Nr_d) (fun e=>by have:=(hob _ e.symm).1;(try dsimp only at this);omega)).trans Nr_d) (show w.heap.size+1≠g by omega) (.slice B9 L9 d)
    have Np3:=Zav (p:=⟨g,3,none⟩) ((hk2 _ (Zao Np_d) (fun e=>by have:=(hob _ e.symm).1;(try dsimp only at this);omega)).trans Np_d) (show w.heap.size≠g by omega) (.slice B9 L9 d)
    have HB3:=Zak (j:=3) (v:=.slice B9 L9 d) HB2 (show w.heap.size≤g by omega)
    simp only [Act.put,pkA,pkB,pkC]
    clear HN HNd HB Ng Nr Np Ng_d Nr_d Np_d hd hs hb1 hk1 hp HB_d HB_1 hk2 hgr hR z0 z1 z2 z3 z4 hob HB2
    go_wp2
    refine ⟨⟨k+1,_,_,by omega,rfl,Ng3,Nr3,Np3,by rw [List.take_succ_eq_append_getElem hlt,← (List.getElem?_eq_some_iff.1 hz9).2] at *;exact HN3,HB3⟩, ?_⟩
    simp [intOf]
    omega
   ·have e:k=x.cells.length:=by omega
    subst e
    rw [List.take_length] at HN
    go_wp2
    clear p9
    go_loopw [5] (fun i wr=>∃ (k:Nat) (u1 u2:Value) (f:Nat→Nat),k≤x.out.length∧i=.int .i64 k∧wr.heap[g]? = some (.cells #[.bool x.up,.int .i64 x.boot,.int .i64 x.hello,u1,u2,.slice none 0 0,e4,e5,e6,e7] 98 (0,0))∧wr.heap[w.heap.size+1]? = some (.cells #[.bool false,.int .i64 0,.int .i64 0,.slice none 0 0,.slice none 0 0,.slice none 0 0,.slice none 0 0,.slice none 0 0,.slice none 0 0,.slice none 0 0] 98 (0,0))∧wr.heap[w.heap.size]? = some (.cells #[.bool x.up,.int .i64 x.boot,.int .i64 x.hello,.slice A1 x.cells.length c1,.slice A2 x.out.length c2,.slice A3 x.inn.length c3,.slice A4 x.outs.length c4,.slice A5 x.ins.length c5,.slice A6 x.boots.length c6,.slice A7 x.seqs.length c7] 98 (0,0))∧P8 wr (fun k=>w.heap.size≤k∧k≠w.heap.size∧k≠w.heap.size+1∧k≠g) f (pRw Zby 103 (u1) (x.cells)) (pRw kBox 109 (u2) (x.out.take k)) (pRw kBox 109 (.slice none 0 0) ([])) (pRw Zhm 167 (e4) (x.outs)) (pRw kInI 170 (e5) (x.ins)) (pRw kInt 3 (e6) (x.boots)) (pRw kInt 3 (e7) (x.seqs)) Zbw∧Below w.heap.size w wr) (fun i _=>x.out.length-(intOf i).toNat)
    case atStart=>exact ⟨0,_,_,_,Nat.zero_le _,rfl,Ng,Nr,Np,HN,HB⟩
    case round =>
     clear Ng Nr Np HN HB hgl hlt hk
     obtain ⟨k,u1,u2,f,hk,rfl,Ng,Nr,Np,HN,HB⟩:=hrel
     have hgl:=Zao Ng
     obtain ⟨-,-,-,-,p9⟩:=cellsP5 Np
     by_cases hlt:k<x.out.length
     ·obtain ⟨z,hz9⟩:=Zar x.out hlt
      have hsz:_∧_:=y2 k z hz9
      obtain ⟨ad,cs0,eA,hk0,h0,hi⟩:=Zce r2 hz9
      have hkk:=hk0
      obtain ⟨B1,d1,rfl,-,-⟩:=Zwh hkk
      have z0:w.cell? (ad.add (k*2))=some (.int .i64 z.depth):=h0 _ rfl
      have z1:w.cell? ⟨(ad.add (k*2)).block,(ad.add (k*2)).off+1,none⟩=some (.slice B1 z.items.length d1):=hi 1 _ (by decide) rfl
      clear h0 hi hkk
      have hsrc:=World.block_lt_of_cell? _ _ z0
      replace z0:=Zaa HB z0
      replace z1:=Zaa HB z1
      replace hk0:=Zai HB hk0
      subst eA
      clear p9
      obtain ⟨-,-,-,-,p⟩:=cellsP5 Np
      go_wp2_with (fail)
      clear p
      have hgu:some g≠u2.ownBlock:=(fun e=>by have:=((Zca HN.r1) _ e.symm).1;(try dsimp only at this);omega)
      have hpu:some w.heap.size≠u2.ownBlock:=(fun e=>by have:=((Zca HN.r1) _ e.symm).1;(try dsimp only at this);omega)
      have hym:some (ad.add (k*2)).block≠u2.ownBlock:=fun e=>by have:=((Zca HN.r1) _ e.symm).1;have hh:=hsrc;(try dsimp only at this hh);omega
      refine Zcf 12 u2.ownBlock [11] (by kernel_rfl) rfl rfl ?_
      intro Wd hd hs
      have Ng_d:=Zab Ng hd
      have Nr_d:=Zab Nr hd
      have Np_d:=Zab Np hd
      have z0:=Zaa hd z0
      have z1:=Zaa hd z1
      have HNd:=HN.step (w1:=Wd) (fun k _ hl=>hd.block k hl)
      have HB_d:=HB.trans (hd.mono HB.size)
      refine head2 12 0 50 51 3 36 98 4 4 g (u:=u2) ⟨rfl,rfl⟩ (by kernel_rfl) ⟨rfl,rfl,rfl⟩ ⟨rfl,rfl,rfl⟩ rfl (show 50<80 by decide) (fun w1=>by go_simp) (fun w1 h=>by go_simp) (fun w1 hk=>hk.cell Ng_d hgu rfl) (Zbc.refl _ _) (fun _ _ _ d _ h=>by cases d <;> exact h) ?_
      refine Zbb (by simp only [Act.put,pkA,pkB,pkC];rfl) ?_
      refine head2 12 2 52 53 1 36 98 4 4 w.heap.size (u:=.slice (some ad) x.out.length c2) ⟨rfl,rfl⟩ (by kernel_rfl) ⟨rfl,rfl,rfl⟩ ⟨rfl,rfl,rfl⟩ rfl (show 52<80 by decide) (fun w1=>by go_simp) (fun w1 h=>by go_simp) (fun w1 hk=>hk.cell Np_d hpu rfl) (Zbc.refl _ _) (fun _ _ _ d _ h=>by cases d <;> exact h) ?_
      refine Zbb (by simp only [Act.put,pkA,pkB,pkC];rfl) ?_
      refine mv1 12 4 54 5 rfl (by kernel_rfl) ⟨rfl,rfl,rfl⟩ rfl (fun _ _ _ d _ h=>by cases d <;> exact h) ?_
      refine Zbb (by simp only [Act.put,pkA,pkB,pkC];rfl) ?_
      refine Zap (i:=5) (N:=some 55) (v:=.pointer (some (ad.add (k*2)))) (upB 12 6) rfl rfl (by kernel_rfl) (fun _ _ _ h=>h) (Or.inl ⟨by rfl,fun w1=>by go_simp⟩) (by simp only [Act.put,pkA,pkB,pkC];rfl) ?_
      refine Zbz (i:=6) (N:=some 56) (v:=.agg #[.int .i64 z.depth,.slice B1 z.items.length d1]) (upB 12 7) rfl rfl (by kernel_rfl) (fun _ _ _ h=>h) (Or.inl ⟨by rfl,fun w1 hk=>by have y0:=hk.at_ z0 hym;have y1:=hk.at_ z1 hym;go_simp⟩) (Zbc.refl _ _) (by simp only [Act.put,pkA,pkB,pkC];rfl) ?_
      have hkd:=Zai hd hk0
      refine Zdt 12 7 57 (fun v w1=>∃ cs:List Value,v=.agg cs.toArray∧Own kBox w1 (fun k=>Wd.heap.size≤k) z cs) rfl (by decide) (by kernel_rfl) rfl rfl rfl Tryz.func133 (by kernel_rfl) rfl #[.agg #[.int .i64 z.depth,.slice B1 z.items.length d1]] (by (try simp only [List.map_toArray,List.map_cons,List.map_nil]);first | done | rfl) ((Zjc z _ Wd hkd hsz.1 hsz.2).mono (fun e w9 h=>⟨match h.1 with | ⟨cs,he,ho⟩=>⟨_,he,cs,rfl,ho⟩,h.2⟩)) (Zbc.refl _ _) nlr_ ?_
      rintro v w1 ⟨cs1,rfl,hp⟩ hb1 hk1
      have hp9:=hp
      obtain ⟨u1_,f9,rfl,-⟩:=Zhn hp9
      refine Zbb (by simp only [Act.put,pkA,pkB,pkC];rfl) ?_
      have hsz1:=hb1.size
      have HB_1:=HB_d.trans (hb1.mono HB_d.size)
      refine Zcl kBox (w0:=w) 12 8 51 57 58 59 60 3 36 109 98 4 4 80 g (u:=u2) (xs:=x.out.take k) (fun k=>(fun k=>w.heap.size≤k∧k≠w.heap.size∧k≠w.heap.size+1∧k≠g) k∧((k<Wd.heap.size∧f k=1)∨Wd.heap.size≤k)) (fun k=>Wd.heap.size≤k) ⟨rfl,rfl,rfl,rfl⟩ (by kernel_rfl) ⟨rfl,rfl,rfl⟩ ⟨rfl,rfl,rfl⟩ ⟨rfl,rfl,rfl⟩ ⟨rfl,rfl,rfl⟩ rfl (by decide) rfl rfl (fun w1=>by go_simp <;> (constructor <;> rfl)) (fun w1=>by go_simp) Tryz.underlying36 iBox rfl (by decide) (by omega) (fun _=>by go_simp) hp ?aO ?aT ?aS ?aF HB_1 ?aL hk1 hb1.size Ng_d (show 4<10 by decide) hgu (fun _ _ _ d _ h=>by cases d <;> exact h) ?_
      (case aO=>exact Zae (Zaj (Zaf HNd.r1) hb1) (fun k hk=>by (try dsimp only at hk ⊢);omega))
      (case aT=>exact fun k hk=>by (try dsimp only at hk ⊢);omega)
      (case aS=>exact fun k hk=>by (try dsimp only at hk ⊢);omega)
      (case aF=>exact fun k hk=>by (try dsimp only at hk ⊢);omega)
      (case aL=>simp;omega)
      rintro B9 L9 d w2 vA vB-hR HB2 hgr hk2 -
      have hob:=fun q (e:u2.ownBlock=some q)=>((Zca HNd.r1) q e).1
      have HN3:=(HNd.app1 hb1 hgr (fun q e=>(hob q e).2) (pcRw _ _ _ _) hR).step (w1:=w2.setCell ⟨g,4,none⟩ (.slice B9 L9 d)) (fun b_ hk _=>Below.heap_setCell w2 ⟨g,4,none⟩ (.slice B9 L9 d) b_ (by (try dsimp only at hk ⊢);omega))
      have Ng3:=Zau ((hk2 g (Zao Ng_d) hgu).trans Ng_d) 4 (.slice B9 L9 d)
      have Nr3:=Zav (p:=⟨g,4,none⟩) ((hk2 _ (Zao Nr_d) (fun e=>by have:=(hob _ e.symm).1;(try dsimp only at this);omega)).trans Nr_d) (show w.heap.size+1≠g by omega) (.slice B9 L9 d)
      have Np3:=Zav (p:=⟨g,4,none⟩) ((hk2 _ (Zao Np_d) (fun e=>by have:=(hob _ e.symm).1;(try dsimp only at this);omega)).trans Np_d) (show w.heap.size≠g by omega) (.slice B9 L9 d)
      have HB3:=Zak (j:=4) (v:=.slice B9 L9 d) HB2 (show w.heap.size≤g by omega)
      simp only [Act.put,pkA,pkB,pkC]
      clear HN HNd HB Ng Nr Np Ng_d Nr_d Np_d hd hs hb1 hk1 hp HB_d HB_1 hk2 hgr hR z0 z1 hob HB2
      go_wp2
      refine ⟨⟨k+1,_,_,_,by omega,rfl,Ng3,Nr3,Np3,by rw [List.take_succ_eq_append_getElem hlt,← (List.getElem?_eq_some_iff.1 hz9).2] at *;exact HN3,HB3⟩, ?_⟩
      simp [intOf]
      omega
     ·have e:k=x.out.length:=by omega
      subst e
      rw [List.take_length] at HN
      go_wp2
      clear p9
      go_loopw [6] (fun i wr=>∃ (k:Nat) (u1 u2 u3:Value) (f:Nat→Nat),k≤x.inn.length∧i=.int .i64 k∧wr.heap[g]? = some (.cells #[.bool x.up,.int .i64 x.boot,.int .i64 x.hello,u1,u2,u3,e4,e5,e6,e7] 98 (0,0))∧wr.heap[w.heap.size+1]? = some (.cells #[.bool false,.int .i64 0,.int .i64 0,.slice none 0 0,.slice none 0 0,.slice none 0 0,.slice none 0 0,.slice none 0 0,.slice none 0 0,.slice none 0 0] 98 (0,0))∧wr.heap[w.heap.size]? = some (.cells #[.bool x.up,.int .i64 x.boot,.int .i64 x.hello,.slice A1 x.cells.length c1,.slice A2 x.out.length c2,.slice A3 x.inn.length c3,.slice A4 x.outs.length c4,.slice A5 x.ins.length c5,.slice A6 x.boots.length c6,.slice A7 x.seqs.length c7] 98 (0,0))∧P8 wr (fun k=>w.heap.size≤k∧k≠w.heap.size∧k≠w.heap.size+1∧k≠g) f (pRw Zby 103 (u1) (x.cells)) (pRw kBox 109 (u2) (x.out)) (pRw kBox 109 (u3) (x.inn.take k)) (pRw Zhm 167 (e4) (x.outs)) (pRw kInI 170 (e5) (x.ins)) (pRw kInt 3 (e6) (x.boots)) (pRw kInt 3 (e7) (x.seqs)) Zbw∧Below w.heap.size w wr) (fun i _=>x.inn.length-(intOf i).toNat)
      case atStart=>exact ⟨0,_,_,_,_,Nat.zero_le _,rfl,Ng,Nr,Np,HN,HB⟩
      case round =>
       clear Ng Nr Np HN HB hgl hlt hk
       obtain ⟨k,u1,u2,u3,f,hk,rfl,Ng,Nr,Np,HN,HB⟩:=hrel
       have hgl:=Zao Ng
       obtain ⟨-,-,-,-,-,p9⟩:=cellsP6 Np
       by_cases hlt:k<x.inn.length
       ·obtain ⟨z,hz9⟩:=Zar x.inn hlt
        have hsz:_∧_:=y3 k z hz9
        obtain ⟨ad,cs0,eA,hk0,h0,hi⟩:=Zce r3 hz9
        have hkk:=hk0
        obtain ⟨B1,d1,rfl,-,-⟩:=Zwh hkk
        have z0:w.cell? (ad.add (k*2))=some (.int .i64 z.depth):=h0 _ rfl
        have z1:w.cell? ⟨(ad.add (k*2)).block,(ad.add (k*2)).off+1,none⟩=some (.slice B1 z.items.length d1):=hi 1 _ (by decide) rfl
        clear h0 hi hkk
        have hsrc:=World.block_lt_of_cell? _ _ z0
        replace z0:=Zaa HB z0
        replace z1:=Zaa HB z1
        replace hk0:=Zai HB hk0
        subst eA
        clear p9
        obtain ⟨-,-,-,-,-,p⟩:=cellsP6 Np
        go_wp2_with (fail)
        clear p
        have hgu:some g≠u3.ownBlock:=(fun e=>by have:=((Zca HN.r2) _ e.symm).1;(try dsimp only at this);omega)
        have hpu:some w.heap.size≠u3.ownBlock:=(fun e=>by have:=((Zca HN.r2) _ e.symm).1;(try dsimp only at this);omega)
        have hym:some (ad.add (k*2)).block≠u3.ownBlock:=fun e=>by have:=((Zca HN.r2) _ e.symm).1;have hh:=hsrc;(try dsimp only at this hh);omega
        refine Zcf 12 u3.ownBlock [11] (by kernel_rfl) rfl rfl ?_
        intro Wd hd hs
        have Ng_d:=Zab Ng hd
        have Nr_d:=Zab Nr hd
        have Np_d:=Zab Np hd
        have z0:=Zaa hd z0
        have z1:=Zaa hd z1
        have HNd:=HN.step (w1:=Wd) (fun k _ hl=>hd.block k hl)
        have HB_d:=HB.trans (hd.mono HB.size)
        refine head2 12 0 68 69 3 36 98 5 5 g (u:=u3) ⟨rfl,rfl⟩ (by kernel_rfl) ⟨rfl,rfl,rfl⟩ ⟨rfl,rfl,rfl⟩ rfl (show 68<80 by decide) (fun w1=>by go_simp) (fun w1 h=>by go_simp) (fun w1 hk=>hk.cell Ng_d hgu rfl) (Zbc.refl _ _) (fun _ _ _ d _ h=>by cases d <;> exact h) ?_
        refine Zbb (by simp only [Act.put,pkA,pkB,pkC];rfl) ?_
        refine head2 12 2 70 71 1 36 98 5 5 w.heap.size (u:=.slice (some ad) x.inn.length c3) ⟨rfl,rfl⟩ (by kernel_rfl) ⟨rfl,rfl,rfl⟩ ⟨rfl,rfl,rfl⟩ rfl (show 70<80 by decide) (fun w1=>by go_simp) (fun w1 h=>by go_simp) (fun w1 hk=>hk.cell Np_d hpu rfl) (Zbc.refl _ _) (fun _ _ _ d _ h=>by cases d <;> exact h) ?_
        refine Zbb (by simp only [Act.put,pkA,pkB,pkC];rfl) ?_
        refine mv1 12 4 72 6 rfl (by kernel_rfl) ⟨rfl,rfl,rfl⟩ rfl (fun _ _ _ d _ h=>by cases d <;> exact h) ?_
        refine Zbb (by simp only [Act.put,pkA,pkB,pkC];rfl) ?_
        refine Zap (i:=5) (N:=some 73) (v:=.pointer (some (ad.add (k*2)))) (upB 12 6) rfl rfl (by kernel_rfl) (fun _ _ _ h=>h) (Or.inl ⟨by rfl,fun w1=>by go_simp⟩) (by simp only [Act.put,pkA,pkB,pkC];rfl) ?_
        refine Zbz (i:=6) (N:=some 74) (v:=.agg #[.int .i64 z.depth,.slice B1 z.items.length d1]) (upB 12 7) rfl rfl (by kernel_rfl) (fun _ _ _ h=>h) (Or.inl ⟨by rfl,fun w1 hk=>by have y0:=hk.at_ z0 hym;have y1:=hk.at_ z1 hym;go_simp⟩) (Zbc.refl _ _) (by simp only [Act.put,pkA,pkB,pkC];rfl) ?_
        have hkd:=Zai hd hk0
        refine Zdt 12 7 75 (fun v w1=>∃ cs:List Value,v=.agg cs.toArray∧Own kBox w1 (fun k=>Wd.heap.size≤k) z cs) rfl (by decide) (by kernel_rfl) rfl rfl rfl Tryz.func133 (by kernel_rfl) rfl #[.agg #[.int .i64 z.depth,.slice B1 z.items.length d1]] (by (try simp only [List.map_toArray,List.map_cons,List.map_nil]);first | done | rfl) ((Zjc z _ Wd hkd hsz.1 hsz.2).mono (fun e w9 h=>⟨match h.1 with | ⟨cs,he,ho⟩=>⟨_,he,cs,rfl,ho⟩,h.2⟩)) (Zbc.refl _ _) nlr_ ?_
        rintro v w1 ⟨cs1,rfl,hp⟩ hb1 hk1
        have hp9:=hp
        obtain ⟨u1_,f9,rfl,-⟩:=Zhn hp9
        refine Zbb (by simp only [Act.put,pkA,pkB,pkC];rfl) ?_
        have hsz1:=hb1.size
        have HB_1:=HB_d.trans (hb1.mono HB_d.size)
        refine Zcl kBox (w0:=w) 12 8 69 75 76 77 78 3 36 109 98 5 5 80 g (u:=u3) (xs:=x.inn.take k) (fun k=>(fun k=>w.heap.size≤k∧k≠w.heap.size∧k≠w.heap.size+1∧k≠g) k∧((k<Wd.heap.size∧f k=2)∨Wd.heap.size≤k)) (fun k=>Wd.heap.size≤k) ⟨rfl,rfl,rfl,rfl⟩ (by kernel_rfl) ⟨rfl,rfl,rfl⟩ ⟨rfl,rfl,rfl⟩ ⟨rfl,rfl,rfl⟩ ⟨rfl,rfl,rfl⟩ rfl (by decide) rfl rfl (fun w1=>by go_simp <;> (constructor <;> rfl)) (fun w1=>by go_simp) Tryz.underlying36 iBox rfl (by decide) (by omega) (fun _=>by go_simp) hp ?aO ?aT ?aS ?aF HB_1 ?aL hk1 hb1.size Ng_d (show 5<10 by decide) hgu (fun _ _ _ d _ h=>by cases d <;> exact h) ?_
        (case aO=>exact Zae (Zaj (Zaf HNd.r2) hb1) (fun k hk=>by (try dsimp only at hk ⊢);omega))
        (case aT=>exact fun k hk=>by (try dsimp only at hk ⊢);omega)
        (case aS=>exact fun k hk=>by (try dsimp only at hk ⊢);omega)
        (case aF=>exact fun k hk=>by (try dsimp only at hk ⊢);omega)
        (case aL=>simp;omega)
        rintro B9 L9 d w2 vA vB-hR HB2 hgr hk2 -
        have hob:=fun q (e:u3.ownBlock=some q)=>((Zca HNd.r2) q e).1
        have HN3:=(HNd.app2 hb1 hgr (fun q e=>(hob q e).2) (pcRw _ _ _ _) hR).step (w1:=w2.setCell ⟨g,5,none⟩ (.slice B9 L9 d)) (fun b_ hk _=>Below.heap_setCell w2 ⟨g,5,none⟩ (.slice B9 L9 d) b_ (by (try dsimp only at hk ⊢);omega))
        have Ng3:=Zau ((hk2 g (Zao Ng_d) hgu).trans Ng_d) 5 (.slice B9 L9 d)
        have Nr3:=Zav (p:=⟨g,5,none⟩) ((hk2 _ (Zao Nr_d) (fun e=>by have:=(hob _ e.symm).1;(try dsimp only at this);omega)).trans Nr_d) (show w.heap.size+1≠g by omega) (.slice B9 L9 d)
        have Np3:=Zav (p:=⟨g,5,none⟩) ((hk2 _ (Zao Np_d) (fun e=>by have:=(hob _ e.symm).1;(try dsimp only at this);omega)).trans Np_d) (show w.heap.size≠g by omega) (.slice B9 L9 d)
        have HB3:=Zak (j:=5) (v:=.slice B9 L9 d) HB2 (show w.heap.size≤g by omega)
        simp only [Act.put,pkA,pkB,pkC]
        clear HN HNd HB Ng Nr Np Ng_d Nr_d Np_d hd hs hb1 hk1 hp HB_d HB_1 hk2 hgr hR z0 z1 hob HB2
        go_wp2
        refine ⟨⟨k+1,_,_,_,_,by omega,rfl,Ng3,Nr3,Np3,by rw [List.take_succ_eq_append_getElem hlt,← (List.getElem?_eq_some_iff.1 hz9).2] at *;exact HN3,HB3⟩, ?_⟩
        simp [intOf]
        omega
       ·have e:k=x.inn.length:=by omega
        subst e
        rw [List.take_length] at HN
        clear p9
        obtain ⟨E0,L0,q0,rfl⟩:=Zba HN.r0
        obtain ⟨E1,L1,q1,rfl⟩:=Zba HN.r1
        obtain ⟨E2,L2,q2,rfl⟩:=Zba HN.r2
        obtain ⟨E3,L3,q3,rfl⟩:=Zba HN.r3
        obtain ⟨E4,L4,q4,rfl⟩:=Zba HN.r4
        obtain ⟨E5,L5,q5,rfl⟩:=Zba HN.r5
        obtain ⟨E6,L6,q6,rfl⟩:=Zba HN.r6
        obtain ⟨-,-,-,-,-,p9⟩:=cellsP6 Np
        go_wp2_with (refine Zen 98 3 2 79 g (w.heap.size+1) #[.bool x.up,.int .i64 x.boot,.int .i64 x.hello,.slice E0 L0 q0,.slice E1 L1 q1,.slice E2 L2 q2,.slice E3 L3 q3,.slice E4 L4 q4,.slice E5 L5 q5,.slice E6 L6 q6] #[.bool false,.int .i64 0,.int .i64 0,.slice none 0 0,.slice none 0 0,.slice none 0 0,.slice none 0 0,.slice none 0 0,.slice none 0 0,.slice none 0 0] 98 98 _ ⟨rfl,rfl,rfl⟩ ⟨rfl,rfl,rfl⟩ rfl rfl (by decide) (show 79<80 by decide) Ng Nr Tryz.underlying98 rfl (by kernel_rfl) rfl (by simp [Value.oneCell']) ?_;intro wz Nz hk)
        refine bodyPost_ret (results_cell_row rfl _ _ (w.heap.size+1) 98 #[.bool x.up,.int .i64 x.boot,.int .i64 x.hello,.slice E0 L0 q0,.slice E1 L1 q1,.slice E2 L2 q2,.slice E3 L3 q3,.slice E4 L4 q4,.slice E5 L5 q5,.slice E6 L6 q6] (0,0) _ rfl Nz Tryz.underlying98 rfl (by kernel_rfl)) rfl ?_
        have HF:=HN.step (w1:=wz) (fun b_ h hl=>hk.block b_ hl (fun e=>h.2.2.1 e))
        exact ⟨⟨_,rfl,Zxm (fun k=>f k+3) (Zae HF.r0 (fun k hk=>⟨hk.1.1,by have:=hk.2;(try dsimp only at this ⊢);omega⟩)) (Zae HF.r1 (fun k hk=>⟨hk.1.1,by have:=hk.2;(try dsimp only at this ⊢);omega⟩)) (Zae HF.r2 (fun k hk=>⟨hk.1.1,by have:=hk.2;(try dsimp only at this ⊢);omega⟩)) (Zae HF.r3 (fun k hk=>⟨hk.1.1,by have:=hk.2;(try dsimp only at this ⊢);omega⟩)) (Zae HF.r4 (fun k hk=>⟨hk.1.1,by have:=hk.2;(try dsimp only at this ⊢);omega⟩)) (Zae HF.r5 (fun k hk=>⟨hk.1.1,by have:=hk.2;(try dsimp only at this ⊢);omega⟩)) (Zae HF.r6 (fun k hk=>⟨hk.1.1,by have:=hk.2;(try dsimp only at this ⊢);omega⟩))⟩,HB.trans ⟨hk.os,hk.tape,hk.output,hk.size,fun b_ hb=>hk.block b_ (by have:=HB.size;omega) (fun e=>by omega)⟩⟩
end Go.Proofs.YtaeckoinpllpnaaGreat
