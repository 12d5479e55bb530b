/- Part 25 of the proof of its last text: this session's own texts, shortened and joined by a program of its own (wip/pack.py). -/
import Derived.Test.YtaeckoinpllpnaaGreatTaa
import Derived.Test.YtaeckoinpllpnaaGreatTax
set_option linter.unusedVariables false
set_option linter.unusedSimpArgs false
set_option maxHeartbeats 16000000
set_option maxRecDepth 100000
namespace Go.Proofs.YtaeckoinpllpnaaGreat
open Go.RowKit Go.Proofs.YtaeckoinpllpnaaGreatW.PrintWords Go.Proofs.YtaeckoinpllpnaaGreatW.PrintLast
def Zzt (z:Nod):Prop:=z.cells.length≤1048576∧(∀ (j:Nat) (m:CelSt),z.cells[j]? = some m→Zvi m)∧z.out.length≤1048576∧(∀ (j:Nat) (m:Box),z.out[j]? = some m→Zyt m)∧z.inn.length≤1048576∧(∀ (j:Nat) (m:Box),z.inn[j]? = some m→Zyt m)∧z.outs.length≤1048576∧z.ins.length≤1048576∧z.boots.length≤1048576∧z.seqs.length≤1048576
theorem Zpl (x:Nod) (cs:List Value) (w:World) (hC:allK w x kNod cs) (hsm:Zzt x) :
  Calls Tryz.prog 108 #[.agg cs.toArray] w fun e w'=>(∃ cs:List Value,e=.returned (.agg cs.toArray)∧Own kNod w' (fun k=>w.heap.size≤k) x cs)∧Below w.heap.size w w':=by
 obtain ⟨l1,s1,l2,s2,l3,s3,l4,l5,l6,l7⟩:=hsm
 obtain ⟨A1,c1,A2,c2,A3,c3,A4,c4,A5,c5,A6,c6,A7,c7,rfl,-,r1,-,r2,-,r3,-,r4,-,r5,-,r6,-,r7⟩:=Zxl hC
 obtain ⟨W0,eW,HB0,Np0,Nr0⟩:=new2 w (.cells #[.bool x.up,.int .i64 x.boot,.int .i64 x.hello,.slice A1 x.cells.length c1,.slice A2 x.out.length c2,.slice A3 x.inn.length c3,.slice A4 x.outs.length c4,.slice A5 x.ins.length c5,.slice A6 x.boots.length c6,.slice A7 x.seqs.length c7] 98) (.cells #[.bool false,.int .i64 0,.int .i64 0,.slice none 0 0,.slice none 0 0,.slice none 0 0,.slice none 0 0,.slice none 0 0,.slice none 0 0,.slice none 0 0] 98)
 go_enter Tryz.func108,Tryz.ntmps108
 go_upto_region 1 with (fail)
 refine wp_at eW ?_
 clear eW
 have g0:w.heap.size+1<W0.heap.size:=Zao Nr0
 obtain ⟨-,-,-,a1⟩:=cellsP4 Np0
 go_upto_region 2 with (go_at_call 151;with_reducible refine (Zny A1 c1 x.cells W0 (Zac r1 HB0) l1 s1).mono ?_;rintro e w1 ⟨⟨v1,rfl,h1⟩,hb1⟩;obtain ⟨E1,L1,q1,rfl⟩:=Zba h1;have Np1:=Zab Np0 hb1;have e1:w1.cell? ⟨w.heap.size,3,none⟩=some (.slice A1 x.cells.length c1):=Zag Np1 rfl;have f1:=Zad Np1 3)
 have HB1:=Zak (j:=3) (v:=.slice E1 L1 q1) (HB0.trans (hb1.mono HB0.size)) (Nat.le_refl w.heap.size)
 replace Np1:(w1.setCell ⟨w.heap.size,3,none⟩ (.slice E1 L1 q1)).heap[w.heap.size]? = some (.cells #[.bool x.up,.int .i64 x.boot,.int .i64 x.hello,.slice E1 L1 q1,.slice A2 x.out.length c2,.slice A3 x.inn.length c3,.slice A4 x.outs.length c4,.slice A5 x.ins.length c5,.slice A6 x.boots.length c6,.slice A7 x.seqs.length c7] 98 (0,0)):=Zau Np1 3 _
 have Nr1:=Zav (p:=⟨w.heap.size,3,none⟩) (Zab Nr0 hb1) (show w.heap.size+1≠w.heap.size by omega) (.slice E1 L1 q1)
 replace h1:=Zaf (Zah h1 (w1:=(w1.setCell ⟨w.heap.size,3,none⟩ (.slice E1 L1 q1))) (fun k hk _=>Below.heap_setCell w1 ⟨w.heap.size,3,none⟩ _ k (by (try dsimp only at hk ⊢);omega)))
 have hz1:w1.heap.size=(w1.setCell ⟨w.heap.size,3,none⟩ (.slice E1 L1 q1)).heap.size:=by simp [World.setCell]
 have hy1:=hb1.size;rw [hz1] at hy1
 clear hz1 e1 f1 a1 hb1 Np0 Nr0
 generalize (w1.setCell ⟨w.heap.size,3,none⟩ (.slice E1 L1 q1))=W1 at *
 obtain ⟨-,-,-,-,a2⟩:=cellsP5 Np1
 go_upto_region 3 with (go_at_call 152;with_reducible refine (Zif A2 c2 x.out W1 (Zac r2 HB1) l2 s2).mono ?_;rintro e w2 ⟨⟨v2,rfl,h2⟩,hb2⟩;obtain ⟨E2,L2,q2,rfl⟩:=Zba h2;have Np2:=Zab Np1 hb2;have e2:w2.cell? ⟨w.heap.size,4,none⟩=some (.slice A2 x.out.length c2):=Zag Np2 rfl;have f2:=Zad Np2 4)
 have HB2:=Zak (j:=4) (v:=.slice E2 L2 q2) (HB1.trans (hb2.mono HB1.size)) (Nat.le_refl w.heap.size)
 replace Np2:(w2.setCell ⟨w.heap.size,4,none⟩ (.slice E2 L2 q2)).heap[w.heap.size]? = some (.cells #[.bool x.up,.int .i64 x.boot,.int .i64 x.hello,.slice E1 L1 q1,.slice E2 L2 q2,.slice A3 x.inn.length c3,.slice A4 x.outs.length c4,.slice A5 x.ins.length c5,.slice A6 x.boots.length c6,.slice A7 x.seqs.length c7] 98 (0,0)):=Zau Np2 4 _
 have Nr2:=Zav (p:=⟨w.heap.size,4,none⟩) (Zab Nr1 hb2) (show w.heap.size+1≠w.heap.size by omega) (.slice E2 L2 q2)
 replace h1:=Zae (Zah (Zaj (Zaf h1) hb2) (w1:=(w2.setCell ⟨w.heap.size,4,none⟩ (.slice E2 L2 q2))) (fun k hk _=>Below.heap_setCell w2 ⟨w.heap.size,4,none⟩ _ k (by (try dsimp only at hk ⊢);omega))) (fun _ h=>h.1)
 replace h2:=Zaf (Zah h2 (w1:=(w2.setCell ⟨w.heap.size,4,none⟩ (.slice E2 L2 q2))) (fun k hk _=>Below.heap_setCell w2 ⟨w.heap.size,4,none⟩ _ k (by (try dsimp only at hk ⊢);omega)))
 have hz2:w2.heap.size=(w2.setCell ⟨w.heap.size,4,none⟩ (.slice E2 L2 q2)).heap.size:=by simp [World.setCell]
 have hy2:=hb2.size;rw [hz2] at hy2
 clear hz2 e2 f2 a2 hb2 Np1 Nr1
 generalize (w2.setCell ⟨w.heap.size,4,none⟩ (.slice E2 L2 q2))=W2 at *
 obtain ⟨-,-,-,-,-,a3⟩:=cellsP6 Np2
 go_upto_region 4 with (go_at_call 152;with_reducible refine (Zif A3 c3 x.inn W2 (Zac r3 HB2) l3 s3).mono ?_;rintro e w3 ⟨⟨v3,rfl,h3⟩,hb3⟩;obtain ⟨E3,L3,q3,rfl⟩:=Zba h3;have Np3:=Zab Np2 hb3;have e3:w3.cell? ⟨w.heap.size,5,none⟩=some (.slice A3 x.inn.length c3):=Zag Np3 rfl;have f3:=Zad Np3 5)
 have HB3:=Zak (j:=5) (v:=.slice E3 L3 q3) (HB2.trans (hb3.mono HB2.size)) (Nat.le_refl w.heap.size)
 replace Np3:(w3.setCell ⟨w.heap.size,5,none⟩ (.slice E3 L3 q3)).heap[w.heap.size]? = some (.cells #[.bool x.up,.int .i64 x.boot,.int .i64 x.hello,.slice E1 L1 q1,.slice E2 L2 q2,.slice E3 L3 q3,.slice A4 x.outs.length c4,.slice A5 x.ins.length c5,.slice A6 x.boots.length c6,.slice A7 x.seqs.length c7] 98 (0,0)):=Zau Np3 5 _
 have Nr3:=Zav (p:=⟨w.heap.size,5,none⟩) (Zab Nr2 hb3) (show w.heap.size+1≠w.heap.size by omega) (.slice E3 L3 q3)
 replace h1:=Zae (Zah (Zaj (Zaf h1) hb3) (w1:=(w3.setCell ⟨w.heap.size,5,none⟩ (.slice E3 L3 q3))) (fun k hk _=>Below.heap_setCell w3 ⟨w.heap.size,5,none⟩ _ k (by (try dsimp only at hk ⊢);omega))) (fun _ h=>h.1)
 replace h2:=Zae (Zah (Zaj (Zaf h2) hb3) (w1:=(w3.setCell ⟨w.heap.size,5,none⟩ (.slice E3 L3 q3))) (fun k hk _=>Below.heap_setCell w3 ⟨w.heap.size,5,none⟩ _ k (by (try dsimp only at hk ⊢);omega))) (fun _ h=>h.1)
 replace h3:=Zaf (Zah h3 (w1:=(w3.setCell ⟨w.heap.size,5,none⟩ (.slice E3 L3 q3))) (fun k hk _=>Below.heap_setCell w3 ⟨w.heap.size,5,none⟩ _ k (by (try dsimp only at hk ⊢);omega)))
 have hz3:w3.heap.size=(w3.setCell ⟨w.heap.size,5,none⟩ (.slice E3 L3 q3)).heap.size:=by simp [World.setCell]
 have hy3:=hb3.size;rw [hz3] at hy3
 clear hz3 e3 f3 a3 hb3 Np2 Nr2
 generalize (w3.setCell ⟨w.heap.size,5,none⟩ (.slice E3 L3 q3))=W3 at *
 obtain ⟨-,-,-,-,-,-,a4⟩:=cellsP7 Np3
 go_upto_region 5 with ((with_reducible refine Zfo (b:=.append) (xs:=#[.const (Value.slice none 0 0),.tmp 16]) rfl ?_);at_builtin;(refine Zdi Zhm Yae (w0:=W3) rfl (.const (Value.slice none 0 0)) (.tmp 16) 93 167 _ _ rfl Tryz.underlying93 Zyn rfl (by decide) (by omega) (.slice none 0 0) [] x.outs A4 c4 (fun k=>W3.heap.size≤k) rfl rfl (Zbq _ _ _ _) (Zac r4 HB3) ?aS ?aF ?aB ?aL ?_);(case aS=>exact fun _ h=>h);(case aF=>exact fun b h=>Nat.le_trans ((Below.refl W3.heap.size W3)).size h);(case aB=>exact (Below.refl W3.heap.size W3));(case aL=>simp <;> omega);intro v4 w4 h4_ hb4 hgx4 hax4;have h4:Rw Zhm 167 w4 (fun k=>W3.heap.size≤k) v4 x.outs:=(by simpa only [List.nil_append] using h4_);obtain ⟨E4,L4,q4,rfl⟩:=Zba h4;have Np4:=Zab Np3 hb4;obtain ⟨-,-,-,-,-,-,e4⟩:=cellsP7 Np4;have f4:=Zad Np4 6)
 have HB4:=Zak (j:=6) (v:=.slice E4 L4 q4) (HB3.trans (hb4.mono HB3.size)) (Nat.le_refl w.heap.size)
 replace Np4:(w4.setCell ⟨w.heap.size,6,none⟩ (.slice E4 L4 q4)).heap[w.heap.size]? = some (.cells #[.bool x.up,.int .i64 x.boot,.int .i64 x.hello,.slice E1 L1 q1,.slice E2 L2 q2,.slice E3 L3 q3,.slice E4 L4 q4,.slice A5 x.ins.length c5,.slice A6 x.boots.length c6,.slice A7 x.seqs.length c7] 98 (0,0)):=Zau Np4 6 _
 have Nr4:=Zav (p:=⟨w.heap.size,6,none⟩) (Zab Nr3 hb4) (show w.heap.size+1≠w.heap.size by omega) (.slice E4 L4 q4)
 replace h1:=Zae (Zah (Zaj (Zaf h1) hb4) (w1:=(w4.setCell ⟨w.heap.size,6,none⟩ (.slice E4 L4 q4))) (fun k hk _=>Below.heap_setCell w4 ⟨w.heap.size,6,none⟩ _ k (by (try dsimp only at hk ⊢);omega))) (fun _ h=>h.1)
 replace h2:=Zae (Zah (Zaj (Zaf h2) hb4) (w1:=(w4.setCell ⟨w.heap.size,6,none⟩ (.slice E4 L4 q4))) (fun k hk _=>Below.heap_setCell w4 ⟨w.heap.size,6,none⟩ _ k (by (try dsimp only at hk ⊢);omega))) (fun _ h=>h.1)
 replace h3:=Zae (Zah (Zaj (Zaf h3) hb4) (w1:=(w4.setCell ⟨w.heap.size,6,none⟩ (.slice E4 L4 q4))) (fun k hk _=>Below.heap_setCell w4 ⟨w.heap.size,6,none⟩ _ k (by (try dsimp only at hk ⊢);omega))) (fun _ h=>h.1)
 replace h4:=Zaf (Zah h4 (w1:=(w4.setCell ⟨w.heap.size,6,none⟩ (.slice E4 L4 q4))) (fun k hk _=>Below.heap_setCell w4 ⟨w.heap.size,6,none⟩ _ k (by (try dsimp only at hk ⊢);omega)))
 have hz4:w4.heap.size=(w4.setCell ⟨w.heap.size,6,none⟩ (.slice E4 L4 q4)).heap.size:=by simp [World.setCell]
 have hy4:=hb4.size;rw [hz4] at hy4
 clear hz4 e4 f4 a4 hb4 Np3 Nr3 h4_ hgx4 hax4
 generalize (w4.setCell ⟨w.heap.size,6,none⟩ (.slice E4 L4 q4))=W4 at *
 obtain ⟨-,-,-,-,-,-,-,a5⟩:=cellsP8 Np4
 go_upto_region 6 with ((with_reducible refine Zfo (b:=.append) (xs:=#[.const (Value.slice none 0 0),.tmp 20]) rfl ?_);at_builtin;(refine Zdi kInI fInI (w0:=W4) rfl (.const (Value.slice none 0 0)) (.tmp 20) 94 170 _ _ rfl Tryz.underlying94 iInI rfl (by decide) (by omega) (.slice none 0 0) [] x.ins A5 c5 (fun k=>W4.heap.size≤k) rfl rfl (Zbq _ _ _ _) (Zac r5 HB4) ?aS ?aF ?aB ?aL ?_);(case aS=>exact fun _ h=>h);(case aF=>exact fun b h=>Nat.le_trans ((Below.refl W4.heap.size W4)).size h);(case aB=>exact (Below.refl W4.heap.size W4));(case aL=>simp <;> omega);intro v5 w5 h5_ hb5 hgx5 hax5;have h5:Rw kInI 170 w5 (fun k=>W4.heap.size≤k) v5 x.ins:=(by simpa only [List.nil_append] using h5_);obtain ⟨E5,L5,q5,rfl⟩:=Zba h5;have Np5:=Zab Np4 hb5;obtain ⟨-,-,-,-,-,-,-,e5⟩:=cellsP8 Np5;have f5:=Zad Np5 7)
 have HB5:=Zak (j:=7) (v:=.slice E5 L5 q5) (HB4.trans (hb5.mono HB4.size)) (Nat.le_refl w.heap.size)
 replace Np5:(w5.setCell ⟨w.heap.size,7,none⟩ (.slice E5 L5 q5)).heap[w.heap.size]? = some (.cells #[.bool x.up,.int .i64 x.boot,.int .i64 x.hello,.slice E1 L1 q1,.slice E2 L2 q2,.slice E3 L3 q3,.slice E4 L4 q4,.slice E5 L5 q5,.slice A6 x.boots.length c6,.slice A7 x.seqs.length c7] 98 (0,0)):=Zau Np5 7 _
 have Nr5:=Zav (p:=⟨w.heap.size,7,none⟩) (Zab Nr4 hb5) (show w.heap.size+1≠w.heap.size by omega) (.slice E5 L5 q5)
 replace h1:=Zae (Zah (Zaj (Zaf h1) hb5) (w1:=(w5.setCell ⟨w.heap.size,7,none⟩ (.slice E5 L5 q5))) (fun k hk _=>Below.heap_setCell w5 ⟨w.heap.size,7,none⟩ _ k (by (try dsimp only at hk ⊢);omega))) (fun _ h=>h.1)
 replace h2:=Zae (Zah (Zaj (Zaf h2) hb5) (w1:=(w5.setCell ⟨w.heap.size,7,none⟩ (.slice E5 L5 q5))) (fun k hk _=>Below.heap_setCell w5 ⟨w.heap.size,7,none⟩ _ k (by (try dsimp only at hk ⊢);omega))) (fun _ h=>h.1)
 replace h3:=Zae (Zah (Zaj (Zaf h3) hb5) (w1:=(w5.setCell ⟨w.heap.size,7,none⟩ (.slice E5 L5 q5))) (fun k hk _=>Below.heap_setCell w5 ⟨w.heap.size,7,none⟩ _ k (by (try dsimp only at hk ⊢);omega))) (fun _ h=>h.1)
 replace h4:=Zae (Zah (Zaj (Zaf h4) hb5) (w1:=(w5.setCell ⟨w.heap.size,7,none⟩ (.slice E5 L5 q5))) (fun k hk _=>Below.heap_setCell w5 ⟨w.heap.size,7,none⟩ _ k (by (try dsimp only at hk ⊢);omega))) (fun _ h=>h.1)
 replace h5:=Zaf (Zah h5 (w1:=(w5.setCell ⟨w.heap.size,7,none⟩ (.slice E5 L5 q5))) (fun k hk _=>Below.heap_setCell w5 ⟨w.heap.size,7,none⟩ _ k (by (try dsimp only at hk ⊢);omega)))
 have hz5:w5.heap.size=(w5.setCell ⟨w.heap.size,7,none⟩ (.slice E5 L5 q5)).heap.size:=by simp [World.setCell]
 have hy5:=hb5.size;rw [hz5] at hy5
 clear hz5 e5 f5 a5 hb5 Np4 Nr4 h5_ hgx5 hax5
 generalize (w5.setCell ⟨w.heap.size,7,none⟩ (.slice E5 L5 q5))=W5 at *
 refine Zcf 11 none [10] (by kernel_rfl) rfl rfl ?_
 intro Wd hd hs
 have Np_d:=Zab Np5 hd
 have Nr_d:=Zab Nr5 hd
 have HBd:=HB5.trans (hd.mono HB5.size)
 refine Zap (i:=0) (N:=some 23) (v:=.pointer (some ⟨w.heap.size,8,none⟩)) #[true,false,false,false,false,false,false,false,false,false,false] rfl rfl (by kernel_rfl) (fun _ _ _ h=>h) (Or.inl ⟨by rfl,fun w1=>by go_simp <;> rfl⟩) (by simp only [Act.put,pkA,pkB,pkC];rfl) ?_
 refine Zap (i:=1) (N:=some 24) (v:=.pointer (some ⟨w.heap.size,8,none⟩)) #[true,true,false,false,false,false,false,false,false,false,false] rfl rfl (by kernel_rfl) (fun _ _ _ h=>h) (Or.inl ⟨by rfl,fun w1=>by go_simp <;> rfl⟩) (by simp only [Act.put,pkA,pkB,pkC];rfl) ?_
 refine Zbz (i:=2) (N:=some 25) (v:=.slice A6 x.boots.length c6) #[true,true,true,false,false,false,false,false,false,false,false] rfl rfl (by kernel_rfl) (fun _ _ _ h=>h) (Or.inl ⟨by rfl,fun w1 hk=>by have N9:=(hk _ (Zao Np_d) (by simp)).trans Np_d;obtain ⟨-,-,-,-,-,-,-,-,y⟩:=cellsP9 N9;go_simp⟩) (Zbc.refl _ _) (by simp only [Act.put,pkA,pkB,pkC];rfl) ?_
 refine Zap (i:=4) (N:=some 27) (v:=.pointer (some ⟨w.heap.size,8,none⟩)) #[true,true,true,false,true,false,false,false,false,false,false] rfl rfl (by kernel_rfl) (fun _ _ _ h=>h) (Or.inl ⟨by rfl,fun w1=>by go_simp <;> rfl⟩) (by simp only [Act.put,pkA,pkB,pkC];rfl) ?_
 refine Zap (i:=5) (N:=some 28) (v:=.pointer (some ⟨w.heap.size,9,none⟩)) #[true,true,true,false,true,true,false,false,false,false,false] rfl rfl (by kernel_rfl) (fun _ _ _ h=>h) (Or.inl ⟨by rfl,fun w1=>by go_simp <;> rfl⟩) (by simp only [Act.put,pkA,pkB,pkC];rfl) ?_
 refine Zbz (i:=6) (N:=some 29) (v:=.slice A7 x.seqs.length c7) #[true,true,true,false,true,true,true,false,false,false,false] rfl rfl (by kernel_rfl) (fun _ _ _ h=>h) (Or.inl ⟨by rfl,fun w1 hk=>by have N9:=(hk _ (Zao Np_d) (by simp)).trans Np_d;obtain ⟨-,-,-,-,-,-,-,-,-,y⟩:=cellsP10 N9;go_simp⟩) (Zbc.refl _ _) (by simp only [Act.put,pkA,pkB,pkC];rfl) ?_
 refine Zfd #[true,true,true,false,true,true,true,false,false,false,false] #[true,true,true,true,true,true,true,false,false,false,false] 3 26 (fun v w1=>Rw kInt 3 w1 (fun k=>Wd.heap.size≤k) v x.boots) rfl (by decide) (by kernel_rfl) rfl rfl rfl Tryz.func112 (by kernel_rfl) rfl #[.slice A6 x.boots.length c6] (by (try simp only [List.map_toArray,List.map_cons,List.map_nil]);first | done | rfl) ((Zea A6 c6 x.boots Wd (Zac r6 HBd) l6).mono (fun e w9 h=>⟨match h.1 with | ⟨v,he,h1⟩=>⟨v,he,h1⟩,h.2⟩)) (Zbc.refl _ _) nlr_ ?_
 rintro v w6 h6 hb6 hk6
 obtain ⟨E6,L6,q6,rfl⟩:=Zba h6
 refine Zbb (by simp only [Act.put,pkA,pkB,pkC];rfl) ?_
 have HB6:=HBd.trans (hb6.mono HBd.size)
 refine Zfd #[true,true,true,true,true,true,true,false,false,false,false] #[true,true,true,true,true,true,true,true,false,false,false] 7 30 (fun v w2=>Rw kInt 3 w2 (fun k=>w6.heap.size≤k) v x.seqs) rfl (by decide) (by kernel_rfl) rfl rfl rfl Tryz.func112 (by kernel_rfl) rfl #[.slice A7 x.seqs.length c7] (by (try simp only [List.map_toArray,List.map_cons,List.map_nil]);first | done | rfl) ((Zea A7 c7 x.seqs w6 (Zac r7 HB6) l7).mono (fun e w9 h=>⟨match h.1 with | ⟨v,he,h1⟩=>⟨v,he,h1⟩,h.2⟩)) hk6 hb6.size ?_
 rintro v w7 h7 hb7 hk7
 obtain ⟨E7,L7,q7,rfl⟩:=Zba h7
 refine Zbb (by simp only [Act.put,pkA,pkB,pkC];rfl) ?_
 refine Zap (i:=8) (N:=some 31) (v:=.agg #[.slice E6 L6 q6,.slice E7 L7 q7]) #[true,true,true,true,true,true,true,true,true,false,false] rfl rfl (by kernel_rfl) (fun _ _ _ h=>h) (Or.inl ⟨by rfl,fun w1=>by go_simp <;> rfl⟩) (by simp only [Act.put,pkA,pkB,pkC];rfl) ?_
 refine Zap (i:=9) (N:=some 32) (v:=.pointer (some ⟨w.heap.size,8,none⟩)) #[true,true,true,true,true,true,true,true,true,true,false] rfl rfl (by kernel_rfl) (fun _ _ _ h=>h) (Or.inl ⟨by rfl,fun w1=>by go_simp <;> rfl⟩) (by simp only [Act.put,pkA,pkB,pkC];rfl) ?_
 have hb67:=hb6.trans (hb7.mono hb6.size)
 have Np7:=Zab Np_d hb67
 have Nr7:=Zab Nr_d hb67
 have HB7:=HB6.trans (hb7.mono HB6.size)
 obtain ⟨-,-,-,-,-,-,-,-,y8,y9⟩:=cellsP10 Np7;have f8:=Zad Np7 8;have f9:=Zad Np7 9
 refine Znl (i:=10) (N:=none) #[true,true,true,true,true,true,true,true,true,true,true] rfl rfl (by kernel_rfl) (by decide) (fun K hK=>?_)
 refine Zyc (w1:=((w7.setCell ⟨w.heap.size,8,none⟩ (.slice E6 L6 q6)).setCell ⟨w.heap.size,9,none⟩ (.slice E7 L7 q7))) (Zbn rfl) rfl (by unfold execOp;go_simp) ?_
 refine hK.out _ _ ?_
 clear hK K y8 y9 f8 f9
 refine Zgw (by kernel_rfl) ?_
 have N9:((w7.setCell ⟨w.heap.size,8,none⟩ (.slice E6 L6 q6)).setCell ⟨w.heap.size,9,none⟩ (.slice E7 L7 q7)).heap[w.heap.size]? = some (.cells #[.bool x.up,.int .i64 x.boot,.int .i64 x.hello,.slice E1 L1 q1,.slice E2 L2 q2,.slice E3 L3 q3,.slice E4 L4 q4,.slice E5 L5 q5,.slice E6 L6 q6,.slice E7 L7 q7] 98 (0,0)):=Zau (Zau Np7 8 _) 9 _
 have M9:=Zav (p:=⟨w.heap.size,9,none⟩) (Zav (p:=⟨w.heap.size,8,none⟩) Nr7 (show w.heap.size+1≠w.heap.size by omega) (.slice E6 L6 q6)) (show w.heap.size+1≠w.heap.size by omega) (.slice E7 L7 q7)
 have HB9:=Zak (j:=9) (v:=.slice E7 L7 q7) (Zak (j:=8) (v:=.slice E6 L6 q6) HB7 (Nat.le_refl w.heap.size)) (Nat.le_refl w.heap.size)
 have kF:=(((Kep.refl (fun b=>b=w.heap.size) w7).set (i:=8) rfl (.slice E6 L6 q6)).set (i:=9) rfl (.slice E7 L7 q7))
 have hsd:=hd.size;have hs6:=hb6.size;have hs7:=hb7.size;have hsk:=kF.size
 replace h1:=Zae (Zah (Zaj (Zaf (Zae (Zaj (Zaf h1) hd) (fun _ h=>h.1))) hb67) (fun k hk hl=>kF.block k hl (fun e=>by omega))) (fun _ h=>h.1)
 replace h2:=Zae (Zah (Zaj (Zaf (Zae (Zaj (Zaf h2) hd) (fun _ h=>h.1))) hb67) (fun k hk hl=>kF.block k hl (fun e=>by omega))) (fun _ h=>h.1)
 replace h3:=Zae (Zah (Zaj (Zaf (Zae (Zaj (Zaf h3) hd) (fun _ h=>h.1))) hb67) (fun k hk hl=>kF.block k hl (fun e=>by omega))) (fun _ h=>h.1)
 replace h4:=Zae (Zah (Zaj (Zaf (Zae (Zaj (Zaf h4) hd) (fun _ h=>h.1))) hb67) (fun k hk hl=>kF.block k hl (fun e=>by omega))) (fun _ h=>h.1)
 replace h5:=Zae (Zah (Zaj (Zaf (Zae (Zaj (Zaf h5) hd) (fun _ h=>h.1))) hb67) (fun k hk hl=>kF.block k hl (fun e=>by omega))) (fun _ h=>h.1)
 replace h6:=Zah (Zaj (Zaf h6) hb7) (fun k hk hl=>kF.block k hl (fun e=>by omega))
 replace h7:=Zah h7 (fun k hk hl=>kF.block k hl (fun e=>by omega))
 clear kF hk6 hk7 Np7 Nr7 Np_d Nr_d HB7 HB6 hb67 hb6 hb7
 generalize ((w7.setCell ⟨w.heap.size,8,none⟩ (.slice E6 L6 q6)).setCell ⟨w.heap.size,9,none⟩ (.slice E7 L7 q7))=W9 at *
 go_wp2_with (refine Zen 98 1 2 33 w.heap.size (w.heap.size+1) #[.bool x.up,.int .i64 x.boot,.int .i64 x.hello,.slice E1 L1 q1,.slice E2 L2 q2,.slice E3 L3 q3,.slice E4 L4 q4,.slice E5 L5 q5,.slice E6 L6 q6,.slice E7 L7 q7] #[.bool false,.int .i64 0,.int .i64 0,.slice none 0 0,.slice none 0 0,.slice none 0 0,.slice none 0 0,.slice none 0 0,.slice none 0 0,.slice none 0 0] 98 98 _ ⟨rfl,rfl,rfl⟩ ⟨rfl,rfl,rfl⟩ rfl rfl (by decide) (show 33<34 by decide) N9 M9 Tryz.underlying98 rfl (by kernel_rfl) rfl (by simp [Value.oneCell']) ?_;intro wz Nz hkz)
 refine bodyPost_ret (results_cell_row rfl _ _ (w.heap.size+1) 98 #[.bool x.up,.int .i64 x.boot,.int .i64 x.hello,.slice E1 L1 q1,.slice E2 L2 q2,.slice E3 L3 q3,.slice E4 L4 q4,.slice E5 L5 q5,.slice E6 L6 q6,.slice E7 L7 q7] (0,0) _ rfl Nz Tryz.underlying98 rfl (by kernel_rfl)) rfl ?_
 refine ⟨⟨_,rfl,Zxm (fun k=>if k<W1.heap.size then 3 else if k<W2.heap.size then 4 else if k<W3.heap.size then 5 else if k<W4.heap.size then 6 else if k<W5.heap.size then 7 else if k<w6.heap.size then 8 else 9) (Zae (Zah h1 (fun k hk hl=>hkz.block k hl (fun e=>by (try dsimp only at hk e);omega))) (fun k hk=>⟨by (try dsimp only at hk ⊢);omega,by (try dsimp only at hk ⊢);rw [if_pos (by omega)]⟩)) (Zae (Zah h2 (fun k hk hl=>hkz.block k hl (fun e=>by (try dsimp only at hk e);omega))) (fun k hk=>⟨by (try dsimp only at hk ⊢);omega,by (try dsimp only at hk ⊢);rw [if_neg (by omega)];rw [if_pos (by omega)]⟩)) (Zae (Zah h3 (fun k hk hl=>hkz.block k hl (fun e=>by (try dsimp only at hk e);omega))) (fun k hk=>⟨by (try dsimp only at hk ⊢);omega,by (try dsimp only at hk ⊢);rw [if_neg (by omega)];rw [if_neg (by omega)];rw [if_pos (by omega)]⟩)) (Zae (Zah h4 (fun k hk hl=>hkz.block k hl (fun e=>by (try dsimp only at hk e);omega))) (fun k hk=>⟨by (try dsimp only at hk ⊢);omega,by (try dsimp only at hk ⊢);rw [if_neg (by omega)];rw [if_neg (by omega)];rw [if_neg (by omega)];rw [if_pos (by omega)]⟩)) (Zae (Zah h5 (fun k hk hl=>hkz.block k hl (fun e=>by (try dsimp only at hk e);omega))) (fun k hk=>⟨by (try dsimp only at hk ⊢);omega,by (try dsimp only at hk ⊢);rw [if_neg (by omega)];rw [if_neg (by omega)];rw [if_neg (by omega)];rw [if_neg (by omega)];rw [if_pos (by omega)]⟩)) (Zae (Zah h6 (fun k hk hl=>hkz.block k hl (fun e=>by (try dsimp only at hk e);omega))) (fun k hk=>⟨by (try dsimp only at hk ⊢);omega,by (try dsimp only at hk ⊢);rw [if_neg (by omega)];rw [if_neg (by omega)];rw [if_neg (by omega)];rw [if_neg (by omega)];rw [if_neg (by omega)];rw [if_pos (by omega)]⟩)) (Zae (Zah h7 (fun k hk hl=>hkz.block k hl (fun e=>by (try dsimp only at hk e);omega))) (fun k hk=>⟨by (try dsimp only at hk ⊢);omega,by (try dsimp only at hk ⊢);rw [if_neg (by omega)];rw [if_neg (by omega)];rw [if_neg (by omega)];rw [if_neg (by omega)];rw [if_neg (by omega)];rw [if_neg (by omega)]⟩))⟩,HB9.trans ⟨hkz.os,hkz.tape,hkz.output,hkz.size,fun b_ hb=>hkz.block b_ (by have:=HB9.size;omega) (fun e=>by omega)⟩⟩
end Go.Proofs.YtaeckoinpllpnaaGreat
