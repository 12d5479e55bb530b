/- Part 27 of the proof of its last text: this session's own texts, shortened and joined by a program of its own (wip/pack.py). -/
import Derived.Test.YtaeckoinpllpnaaGreatTaa
import Derived.Test.YtaeckoinpllpnaaGreatTay
import Derived.Test.YtaeckoinpllpnaaGreatTat
set_option linter.unusedVariables false
set_option linter.unusedSimpArgs false
set_option maxHeartbeats 16000000
set_option maxRecDepth 100000
namespace Go.Proofs.YtaeckoinpllpnaaGreat
open Go.RowKit Go.Proofs.YtaeckoinpllpnaaGreatW.PrintWords Go.Proofs.YtaeckoinpllpnaaGreatW.PrintLast
def Zwl (x:Pln):Prop:=(∀ (j:Nat) (z:Cel),x.cells[j]? = some z→z.code.length≤1048576)∧(∀ (j:Nat) (z:Wy),x.ways[j]? = some z→z.guard.length≤1048576)∧x.cells.length≤1048576∧x.ways.length≤1048576∧x.slots.length≤1048576∧x.turns.length≤1048576∧∀ (j:Nat) (z:List Int),x.turns[j]? = some z→z.length≤1048576
def Zxr (x:Wld):Prop:=Zwl x.plan∧x.nodes.length≤1048576∧(∀ (j:Nat) (z:Nod),x.nodes[j]? = some z→Zzt z)∧x.log.length≤1048576∧(∀ (j:Nat) (z:List Int),x.log[j]? = some z→z.length≤1048576)∧x.seen.length≤1048576∧∀ (j:Nat) (z:List Sight),x.seen[j]? = some z→Ztw z
theorem Zpn (x:Wld) (cs:List Value) (w:World) (hC:allK w x kWld cs) (hsm:Zxr x) :
  Calls Tryz.prog 63 #[.agg cs.toArray] w fun e w'=>(∃ cs:List Value,e=.returned (.agg cs.toArray)∧Own kWld w' (fun k=>w.heap.size≤k) x cs)∧Below w.heap.size w w':=by
 obtain ⟨⟨p1,p2,p3,p4,p5,p6,p7⟩,hn1,hn2,hl1,hl2,hs1,hs2⟩:=hsm
 obtain ⟨A1,c1,A2,c2,A3,c3,A4,c4,A5,c5,A6,c6,A7,c7,rfl,m1,r1,m2,r2,m3,r3,m4,r4,m5,r5,m6,r6,m7,r7⟩:=Zzr hC
 obtain ⟨W0,eW,HB0,Np0,Nr0⟩:=new2 w (.cells #[.int .i64 x.plan.nodes,.int .i64 x.plan.secret,.int .i64 x.plan.fuel,.slice A1 x.plan.cells.length c1,.slice A2 x.plan.ways.length c2,.slice A3 x.plan.slots.length c3,.slice A4 x.plan.turns.length c4,.slice A5 x.nodes.length c5,.int .i64 x.now,.slice A6 x.log.length c6,.slice A7 x.seen.length c7] 56) (.cells #[.int .i64 0,.int .i64 0,.int .i64 0,.slice none 0 0,.slice none 0 0,.slice none 0 0,.slice none 0 0,.slice none 0 0,.int .i64 0,.slice none 0 0,.slice none 0 0] 56)
 go_enter Tryz.func63,Tryz.ntmps63
 go_upto_region 1 with (fail)
 refine wp_at eW ?_
 clear eW
 have g0:w.heap.size+1<W0.heap.size:=Zao Nr0
 obtain ⟨a0,a1,a2,a3,a4,a5,a6⟩:=cellsP7 Np0
 have hP:allK W0 x.plan kPln [.int .i64 x.plan.nodes,.int .i64 x.plan.secret,.int .i64 x.plan.fuel,.slice A1 x.plan.cells.length c1,.slice A2 x.plan.ways.length c2,.slice A3 x.plan.slots.length c3,.slice A4 x.plan.turns.length c4]:=⟨rfl,rfl,rfl,⟨_,_,rfl,m1,Zac r1 HB0⟩,⟨_,_,rfl,m2,Zac r2 HB0⟩,⟨_,_,rfl,m3,Zac r3 HB0⟩,⟨_,_,rfl,m4,Zac r4 HB0⟩,trivial⟩
 go_upto_region 2 with (go_at_call 67;with_reducible refine (Ziq x.plan _ W0 hP p1 p2 p3 p4 p5 p6 p7).mono ?_;rintro e w1 ⟨⟨cs1,rfl,hO⟩,hb1⟩;obtain ⟨v1,v2,v3,v4,ff,rfl,h1,h2,h3,h4⟩:=Zho hO;obtain ⟨E1,L1,q1,rfl⟩:=Zba h1;obtain ⟨E2,L2,q2,rfl⟩:=Zba h2;obtain ⟨E3,L3,q3,rfl⟩:=Zba h3;obtain ⟨E4,L4,q4,rfl⟩:=Zba h4;have Np1:=Zab Np0 hb1;have e0:w1.cell? ⟨w.heap.size,0,none⟩=some (.int .i64 x.plan.nodes):=Zag Np1 rfl;have f0:=Zad Np1 0;have e1:w1.cell? ⟨w.heap.size,1,none⟩=some (.int .i64 x.plan.secret):=Zag Np1 rfl;have f1:=Zad Np1 1;have e2:w1.cell? ⟨w.heap.size,2,none⟩=some (.int .i64 x.plan.fuel):=Zag Np1 rfl;have f2:=Zad Np1 2;have e3:w1.cell? ⟨w.heap.size,3,none⟩=some (.slice A1 x.plan.cells.length c1):=Zag Np1 rfl;have f3:=Zad Np1 3;have e4:w1.cell? ⟨w.heap.size,4,none⟩=some (.slice A2 x.plan.ways.length c2):=Zag Np1 rfl;have f4:=Zad Np1 4;have e5:w1.cell? ⟨w.heap.size,5,none⟩=some (.slice A3 x.plan.slots.length c3):=Zag Np1 rfl;have f5:=Zad Np1 5;have e6:w1.cell? ⟨w.heap.size,6,none⟩=some (.slice A4 x.plan.turns.length c4):=Zag Np1 rfl;have f6:=Zad Np1 6)
 have HB1:=(Zak (j:=6) (v:=.slice E4 L4 q4) (Zak (j:=5) (v:=.slice E3 L3 q3) (Zak (j:=4) (v:=.slice E2 L2 q2) (Zak (j:=3) (v:=.slice E1 L1 q1) (Zak (j:=2) (v:=.int .i64 x.plan.fuel) (Zak (j:=1) (v:=.int .i64 x.plan.secret) (Zak (j:=0) (v:=.int .i64 x.plan.nodes) (HB0.trans (hb1.mono HB0.size)) (Nat.le_refl w.heap.size)) (Nat.le_refl w.heap.size)) (Nat.le_refl w.heap.size)) (Nat.le_refl w.heap.size)) (Nat.le_refl w.heap.size)) (Nat.le_refl w.heap.size)) (Nat.le_refl w.heap.size))
 have Np2:(((((((w1.setCell ⟨w.heap.size,0,none⟩ (.int .i64 x.plan.nodes)).setCell ⟨w.heap.size,1,none⟩ (.int .i64 x.plan.secret)).setCell ⟨w.heap.size,2,none⟩ (.int .i64 x.plan.fuel)).setCell ⟨w.heap.size,3,none⟩ (.slice E1 L1 q1)).setCell ⟨w.heap.size,4,none⟩ (.slice E2 L2 q2)).setCell ⟨w.heap.size,5,none⟩ (.slice E3 L3 q3)).setCell ⟨w.heap.size,6,none⟩ (.slice E4 L4 q4)).heap[w.heap.size]? = some (.cells #[.int .i64 x.plan.nodes,.int .i64 x.plan.secret,.int .i64 x.plan.fuel,.slice E1 L1 q1,.slice E2 L2 q2,.slice E3 L3 q3,.slice E4 L4 q4,.slice A5 x.nodes.length c5,.int .i64 x.now,.slice A6 x.log.length c6,.slice A7 x.seen.length c7] 56 (0,0)):=(Zau (Zau (Zau (Zau (Zau (Zau (Zau Np1 0 _) 1 _) 2 _) 3 _) 4 _) 5 _) 6 _)
 have Nr1:=(Zav (p:=⟨w.heap.size,6,none⟩) (Zav (p:=⟨w.heap.size,5,none⟩) (Zav (p:=⟨w.heap.size,4,none⟩) (Zav (p:=⟨w.heap.size,3,none⟩) (Zav (p:=⟨w.heap.size,2,none⟩) (Zav (p:=⟨w.heap.size,1,none⟩) (Zav (p:=⟨w.heap.size,0,none⟩) (Zab Nr0 hb1) (show w.heap.size+1≠w.heap.size by omega) (.int .i64 x.plan.nodes)) (show w.heap.size+1≠w.heap.size by omega) (.int .i64 x.plan.secret)) (show w.heap.size+1≠w.heap.size by omega) (.int .i64 x.plan.fuel)) (show w.heap.size+1≠w.heap.size by omega) (.slice E1 L1 q1)) (show w.heap.size+1≠w.heap.size by omega) (.slice E2 L2 q2)) (show w.heap.size+1≠w.heap.size by omega) (.slice E3 L3 q3)) (show w.heap.size+1≠w.heap.size by omega) (.slice E4 L4 q4))
 have kF:=((((((((Kep.refl (fun b=>b=w.heap.size) w1).set (i:=0) rfl (.int .i64 x.plan.nodes)).set (i:=1) rfl (.int .i64 x.plan.secret)).set (i:=2) rfl (.int .i64 x.plan.fuel)).set (i:=3) rfl (.slice E1 L1 q1)).set (i:=4) rfl (.slice E2 L2 q2)).set (i:=5) rfl (.slice E3 L3 q3)).set (i:=6) rfl (.slice E4 L4 q4))
 have hz1:(((((((w1.setCell ⟨w.heap.size,0,none⟩ (.int .i64 x.plan.nodes)).setCell ⟨w.heap.size,1,none⟩ (.int .i64 x.plan.secret)).setCell ⟨w.heap.size,2,none⟩ (.int .i64 x.plan.fuel)).setCell ⟨w.heap.size,3,none⟩ (.slice E1 L1 q1)).setCell ⟨w.heap.size,4,none⟩ (.slice E2 L2 q2)).setCell ⟨w.heap.size,5,none⟩ (.slice E3 L3 q3)).setCell ⟨w.heap.size,6,none⟩ (.slice E4 L4 q4)).heap.size=w1.heap.size:=by simp [World.setCell]
 have hy1:=hb1.size;rw [← hz1] at hy1
 replace h1:=Zaf (Zah h1 (w1:=(((((((w1.setCell ⟨w.heap.size,0,none⟩ (.int .i64 x.plan.nodes)).setCell ⟨w.heap.size,1,none⟩ (.int .i64 x.plan.secret)).setCell ⟨w.heap.size,2,none⟩ (.int .i64 x.plan.fuel)).setCell ⟨w.heap.size,3,none⟩ (.slice E1 L1 q1)).setCell ⟨w.heap.size,4,none⟩ (.slice E2 L2 q2)).setCell ⟨w.heap.size,5,none⟩ (.slice E3 L3 q3)).setCell ⟨w.heap.size,6,none⟩ (.slice E4 L4 q4))) (fun k hk hl=>kF.block k hl (fun e=>by (try dsimp only at hk e);omega)))
 replace h2:=Zaf (Zah h2 (w1:=(((((((w1.setCell ⟨w.heap.size,0,none⟩ (.int .i64 x.plan.nodes)).setCell ⟨w.heap.size,1,none⟩ (.int .i64 x.plan.secret)).setCell ⟨w.heap.size,2,none⟩ (.int .i64 x.plan.fuel)).setCell ⟨w.heap.size,3,none⟩ (.slice E1 L1 q1)).setCell ⟨w.heap.size,4,none⟩ (.slice E2 L2 q2)).setCell ⟨w.heap.size,5,none⟩ (.slice E3 L3 q3)).setCell ⟨w.heap.size,6,none⟩ (.slice E4 L4 q4))) (fun k hk hl=>kF.block k hl (fun e=>by (try dsimp only at hk e);omega)))
 replace h3:=Zaf (Zah h3 (w1:=(((((((w1.setCell ⟨w.heap.size,0,none⟩ (.int .i64 x.plan.nodes)).setCell ⟨w.heap.size,1,none⟩ (.int .i64 x.plan.secret)).setCell ⟨w.heap.size,2,none⟩ (.int .i64 x.plan.fuel)).setCell ⟨w.heap.size,3,none⟩ (.slice E1 L1 q1)).setCell ⟨w.heap.size,4,none⟩ (.slice E2 L2 q2)).setCell ⟨w.heap.size,5,none⟩ (.slice E3 L3 q3)).setCell ⟨w.heap.size,6,none⟩ (.slice E4 L4 q4))) (fun k hk hl=>kF.block k hl (fun e=>by (try dsimp only at hk e);omega)))
 replace h4:=Zaf (Zah h4 (w1:=(((((((w1.setCell ⟨w.heap.size,0,none⟩ (.int .i64 x.plan.nodes)).setCell ⟨w.heap.size,1,none⟩ (.int .i64 x.plan.secret)).setCell ⟨w.heap.size,2,none⟩ (.int .i64 x.plan.fuel)).setCell ⟨w.heap.size,3,none⟩ (.slice E1 L1 q1)).setCell ⟨w.heap.size,4,none⟩ (.slice E2 L2 q2)).setCell ⟨w.heap.size,5,none⟩ (.slice E3 L3 q3)).setCell ⟨w.heap.size,6,none⟩ (.slice E4 L4 q4))) (fun k hk hl=>kF.block k hl (fun e=>by (try dsimp only at hk e);omega)))
 clear hz1 kF hO hb1 Np1 Np0 Nr0 e0 e1 e2 e3 e4 e5 e6 f0 f1 f2 f3 f4 f5 f6 a0 a1 a2 a3 a4 a5 a6
 generalize (((((((w1.setCell ⟨w.heap.size,0,none⟩ (.int .i64 x.plan.nodes)).setCell ⟨w.heap.size,1,none⟩ (.int .i64 x.plan.secret)).setCell ⟨w.heap.size,2,none⟩ (.int .i64 x.plan.fuel)).setCell ⟨w.heap.size,3,none⟩ (.slice E1 L1 q1)).setCell ⟨w.heap.size,4,none⟩ (.slice E2 L2 q2)).setCell ⟨w.heap.size,5,none⟩ (.slice E3 L3 q3)).setCell ⟨w.heap.size,6,none⟩ (.slice E4 L4 q4))=W1 at *
 obtain ⟨-,-,-,-,-,-,-,a7⟩:=cellsP8 Np2
 have hA:=Zac r5 HB1
 have hl:=hn1
 go_wp2
 clear a7
 go_loopw [3,13] (fun v i wr=>∃ k:Nat,k≤x.nodes.length∧i=.int .i64 k∧Rw kNod 98 wr (fun k=>W1.heap.size≤k) v (x.nodes.take k)∧Below W1.heap.size W1 wr) (fun v i _=>x.nodes.length-(intOf i).toNat)
 case atStart=>exact ⟨0,Nat.zero_le _,rfl,Zbq _ _ _ _,brf_⟩
 case round =>
  obtain ⟨k,hk,rfl,hR,hb⟩:=hrel
  by_cases hlt:k<x.nodes.length
  ·obtain ⟨z,hz9⟩:=Zar x.nodes hlt
   obtain ⟨ad,cs0,rfl,hk0,h0,hi⟩:=Zce (Zac hA hb) hz9
   have hsz:=hn2 k z hz9
   have hkk:=hk0
   obtain ⟨B1,d1,B2,d2,B3,d3,B4,d4,B5,d5,B6,d6,B7,d7,rfl,-,-,-,-,-,-,-,-,-,-,-,-,-,-⟩:=Zxl hkk
   have z0:wr.cell? (ad.add (k*10))=some (.bool z.up):=h0 _ rfl
   have z1:wr.cell? ⟨(ad.add (k*10)).block,(ad.add (k*10)).off+1,none⟩=some (.int .i64 z.boot):=hi 1 _ (by decide) rfl
   have z2:wr.cell? ⟨(ad.add (k*10)).block,(ad.add (k*10)).off+2,none⟩=some (.int .i64 z.hello):=hi 2 _ (by decide) rfl
   have z3:wr.cell? ⟨(ad.add (k*10)).block,(ad.add (k*10)).off+3,none⟩=some (.slice B1 z.cells.length d1):=hi 3 _ (by decide) rfl
   have z4:wr.cell? ⟨(ad.add (k*10)).block,(ad.add (k*10)).off+4,none⟩=some (.slice B2 z.out.length d2):=hi 4 _ (by decide) rfl
   have z5:wr.cell? ⟨(ad.add (k*10)).block,(ad.add (k*10)).off+5,none⟩=some (.slice B3 z.inn.length d3):=hi 5 _ (by decide) rfl
   have z6:wr.cell? ⟨(ad.add (k*10)).block,(ad.add (k*10)).off+6,none⟩=some (.slice B4 z.outs.length d4):=hi 6 _ (by decide) rfl
   have z7:wr.cell? ⟨(ad.add (k*10)).block,(ad.add (k*10)).off+7,none⟩=some (.slice B5 z.ins.length d5):=hi 7 _ (by decide) rfl
   have z8:wr.cell? ⟨(ad.add (k*10)).block,(ad.add (k*10)).off+8,none⟩=some (.slice B6 z.boots.length d6):=hi 8 _ (by decide) rfl
   have z9:wr.cell? ⟨(ad.add (k*10)).block,(ad.add (k*10)).off+9,none⟩=some (.slice B7 z.seqs.length d7):=hi 9 _ (by decide) rfl
   have hal:Below wr.heap.size wr (wr.alloc (.cells #[.bool z.up,.int .i64 z.boot,.int .i64 z.hello,.slice B1 z.cells.length d1,.slice B2 z.out.length d2,.slice B3 z.inn.length d3,.slice B4 z.outs.length d4,.slice B5 z.ins.length d5,.slice B6 z.boots.length d6,.slice B7 z.seqs.length d7] 98)):=(brf_).alloc nlr_ _
   have hk1:=Zai hal hk0
   have hba:=hb.alloc hb.size (.cells #[.bool z.up,.int .i64 z.boot,.int .i64 z.hello,.slice B1 z.cells.length d1,.slice B2 z.out.length d2,.slice B3 z.inn.length d3,.slice B4 z.outs.length d4,.slice B5 z.ins.length d5,.slice B6 z.boots.length d6,.slice B7 z.seqs.length d7] 98)
   have hasz:=Zcq wr (.cells #[.bool z.up,.int .i64 z.boot,.int .i64 z.hello,.slice B1 z.cells.length d1,.slice B2 z.out.length d2,.slice B3 z.inn.length d3,.slice B4 z.outs.length d4,.slice B5 z.ins.length d5,.slice B6 z.boots.length d6,.slice B7 z.seqs.length d7] 98)
   clear h0 hi hkk
   go_wp2_with (first
    | (go_at_call 108;with_reducible refine (Zpl z _ _ hk1 hsz).mono ?_;rintro e w1 ⟨⟨cs1,rfl,hO⟩,hb1⟩;have hO9:=hO;obtain ⟨u1,u2,u3,u4,u5,u6,u7,f9,rfl,-,-,-,-,-,-,-⟩:=Zgc hO9;have hR1:=Zaj (Zaf hR) (hal.trans (hb1.mono hal.size));have hb2:=hba.trans (hb1.mono hba.size);have hs1:=hb1.size)
    | ((with_reducible refine Zfo (b:=.append) (xs:=#[.tmp 17,.tmp 20]) rfl ?_);at_builtin;(refine Zdg kNod (w0:=W1) rfl (.tmp 17) (.tmp 20) 53 98 _ _ rfl Tryz.underlying53 iNod rfl (by decide) (by omega) _ (x.nodes.take k) z _ (fun k=>W1.heap.size≤k) (fun k=>(wr.alloc (.cells #[.bool z.up,.int .i64 z.boot,.int .i64 z.hello,.slice B1 z.cells.length d1,.slice B2 z.out.length d2,.slice B3 z.inn.length d3,.slice B4 z.outs.length d4,.slice B5 z.ins.length d5,.slice B6 z.boots.length d6,.slice B7 z.seqs.length d7] 98)).heap.size≤k) rfl rfl hO (Zae hR1 (fun k hk=>by have:=hk.1;have:=hk.2;(try dsimp only at this ⊢);omega)) (fun k hk=>by have:=hb.size;(try dsimp only at hk ⊢);omega) (fun _ h=>h) (fun k hk=>by have:=hb2.size;(try dsimp only);omega) hb2 (by simp;omega) ?_);intro v2 w2 hR2 HB2 hgr hat))
   refine ⟨⟨k+1,by omega,rfl,by rw [List.take_succ_eq_append_getElem hlt,← (List.getElem?_eq_some_iff.1 hz9).2] at *;exact hR2,HB2⟩, ?_⟩
   simp [intOf]
   omega
  ·have e:k=x.nodes.length:=by omega
   subst e
   rw [List.take_length] at hR
   obtain ⟨E5,L5,q5,rfl⟩:=Zba hR
   have Np3:=Zab Np2 hb;have f7:=Zad Np3 7;obtain ⟨-,-,-,-,-,-,-,y7⟩:=cellsP8 Np3;have Nr2:=Zab Nr1 hb;have HB2:=HB1.trans (hb.mono HB1.size);have hsb:=hb.size
   go_upto_region 9 with (fail)
   change Code.wp _ _ _ _ (wr.setCell ⟨w.heap.size,7,none⟩ (.slice E5 L5 q5))
   have HB3:=Zak (j:=7) (v:=.slice E5 L5 q5) HB2 (Nat.le_refl w.heap.size)
   have Np4:(wr.setCell ⟨w.heap.size,7,none⟩ (.slice E5 L5 q5)).heap[w.heap.size]? = some (.cells #[.int .i64 x.plan.nodes,.int .i64 x.plan.secret,.int .i64 x.plan.fuel,.slice E1 L1 q1,.slice E2 L2 q2,.slice E3 L3 q3,.slice E4 L4 q4,.slice E5 L5 q5,.int .i64 x.now,.slice A6 x.log.length c6,.slice A7 x.seen.length c7] 56 (0,0)):=Zau Np3 7 _
   have Nr3:=Zav (p:=⟨w.heap.size,7,none⟩) Nr2 (show w.heap.size+1≠w.heap.size by omega) (.slice E5 L5 q5)
   replace h1:=Zae (Zah (Zaj (Zaf h1) hb) (w1:=(wr.setCell ⟨w.heap.size,7,none⟩ (.slice E5 L5 q5))) (fun k hk _=>Below.heap_setCell wr ⟨w.heap.size,7,none⟩ _ k (by (try dsimp only at hk ⊢);omega))) (fun _ h=>h.1)
   replace h2:=Zae (Zah (Zaj (Zaf h2) hb) (w1:=(wr.setCell ⟨w.heap.size,7,none⟩ (.slice E5 L5 q5))) (fun k hk _=>Below.heap_setCell wr ⟨w.heap.size,7,none⟩ _ k (by (try dsimp only at hk ⊢);omega))) (fun _ h=>h.1)
   replace h3:=Zae (Zah (Zaj (Zaf h3) hb) (w1:=(wr.setCell ⟨w.heap.size,7,none⟩ (.slice E5 L5 q5))) (fun k hk _=>Below.heap_setCell wr ⟨w.heap.size,7,none⟩ _ k (by (try dsimp only at hk ⊢);omega))) (fun _ h=>h.1)
   replace h4:=Zae (Zah (Zaj (Zaf h4) hb) (w1:=(wr.setCell ⟨w.heap.size,7,none⟩ (.slice E5 L5 q5))) (fun k hk _=>Below.heap_setCell wr ⟨w.heap.size,7,none⟩ _ k (by (try dsimp only at hk ⊢);omega))) (fun _ h=>h.1)
   have h5:=Zaf (Zah hR (w1:=(wr.setCell ⟨w.heap.size,7,none⟩ (.slice E5 L5 q5))) (fun k hk _=>Below.heap_setCell wr ⟨w.heap.size,7,none⟩ _ k (by (try dsimp only at hk ⊢);omega)))
   have hy2:W1.heap.size≤(wr.setCell ⟨w.heap.size,7,none⟩ (.slice E5 L5 q5)).heap.size:=by simpa [World.setCell] using hsb
   clear hb hR Np3 Nr2 HB2 f7 y7 hlt Np2 Nr1 hk hA
   generalize (wr.setCell ⟨w.heap.size,7,none⟩ (.slice E5 L5 q5))=W2 at *
   obtain ⟨-,-,-,-,-,-,-,-,-,a⟩:=cellsP10 Np4
   go_upto_region 10 with (go_at_call 109;with_reducible refine (Zgs A6 c6 x.log W2 (Zac r6 HB3) hl1 hl2).mono ?_;rintro e w6 ⟨⟨v6,rfl,h6⟩,hb6⟩;obtain ⟨E6,L6,q6,rfl⟩:=Zba h6;have Np:=Zab Np4 hb6;have e6:w6.cell? ⟨w.heap.size,9,none⟩=some (.slice A6 x.log.length c6):=Zag Np rfl;have f6:=Zad Np 9)
   have HB4:=Zak (j:=9) (v:=.slice E6 L6 q6) (HB3.trans (hb6.mono HB3.size)) (Nat.le_refl w.heap.size)
   have Np5:(w6.setCell ⟨w.heap.size,9,none⟩ (.slice E6 L6 q6)).heap[w.heap.size]? = some (.cells #[.int .i64 x.plan.nodes,.int .i64 x.plan.secret,.int .i64 x.plan.fuel,.slice E1 L1 q1,.slice E2 L2 q2,.slice E3 L3 q3,.slice E4 L4 q4,.slice E5 L5 q5,.int .i64 x.now,.slice E6 L6 q6,.slice A7 x.seen.length c7] 56 (0,0)):=Zau Np 9 _
   have Nr4:=Zav (p:=⟨w.heap.size,9,none⟩) (Zab Nr3 hb6) (show w.heap.size+1≠w.heap.size by omega) (.slice E6 L6 q6)
   replace h1:=Zae (Zah (Zaj (Zaf h1) hb6) (w1:=(w6.setCell ⟨w.heap.size,9,none⟩ (.slice E6 L6 q6))) (fun k hk _=>Below.heap_setCell w6 ⟨w.heap.size,9,none⟩ _ k (by (try dsimp only at hk ⊢);omega))) (fun _ h=>h.1)
   replace h2:=Zae (Zah (Zaj (Zaf h2) hb6) (w1:=(w6.setCell ⟨w.heap.size,9,none⟩ (.slice E6 L6 q6))) (fun k hk _=>Below.heap_setCell w6 ⟨w.heap.size,9,none⟩ _ k (by (try dsimp only at hk ⊢);omega))) (fun _ h=>h.1)
   replace h3:=Zae (Zah (Zaj (Zaf h3) hb6) (w1:=(w6.setCell ⟨w.heap.size,9,none⟩ (.slice E6 L6 q6))) (fun k hk _=>Below.heap_setCell w6 ⟨w.heap.size,9,none⟩ _ k (by (try dsimp only at hk ⊢);omega))) (fun _ h=>h.1)
   replace h4:=Zae (Zah (Zaj (Zaf h4) hb6) (w1:=(w6.setCell ⟨w.heap.size,9,none⟩ (.slice E6 L6 q6))) (fun k hk _=>Below.heap_setCell w6 ⟨w.heap.size,9,none⟩ _ k (by (try dsimp only at hk ⊢);omega))) (fun _ h=>h.1)
   replace h5:=Zae (Zah (Zaj (Zaf h5) hb6) (w1:=(w6.setCell ⟨w.heap.size,9,none⟩ (.slice E6 L6 q6))) (fun k hk _=>Below.heap_setCell w6 ⟨w.heap.size,9,none⟩ _ k (by (try dsimp only at hk ⊢);omega))) (fun _ h=>h.1)
   replace h6:=Zaf (Zah h6 (w1:=(w6.setCell ⟨w.heap.size,9,none⟩ (.slice E6 L6 q6))) (fun k hk _=>Below.heap_setCell w6 ⟨w.heap.size,9,none⟩ _ k (by (try dsimp only at hk ⊢);omega)))
   have hy3:W2.heap.size≤(w6.setCell ⟨w.heap.size,9,none⟩ (.slice E6 L6 q6)).heap.size:=by have:=hb6.size;simpa [World.setCell] using this
   clear a hb6 Np e6 f6 Np4 Nr3
   generalize (w6.setCell ⟨w.heap.size,9,none⟩ (.slice E6 L6 q6))=W3 at *
   obtain ⟨-,-,-,-,-,-,-,-,-,-,a⟩:=cellsP11 Np5
   go_upto_region 11 with (go_at_call 110;with_reducible refine (Zmo A7 c7 x.seen W3 (Zac r7 HB4) hs1 hs2).mono ?_;rintro e w7 ⟨⟨v7,rfl,h7⟩,hb7⟩;obtain ⟨E7,L7,q7,rfl⟩:=Zba h7;have Np:=Zab Np5 hb7;have e7:w7.cell? ⟨w.heap.size,10,none⟩=some (.slice A7 x.seen.length c7):=Zag Np rfl;have f7:=Zad Np 10)
   have HB5:=Zak (j:=10) (v:=.slice E7 L7 q7) (HB4.trans (hb7.mono HB4.size)) (Nat.le_refl w.heap.size)
   have Np6:(w7.setCell ⟨w.heap.size,10,none⟩ (.slice E7 L7 q7)).heap[w.heap.size]? = some (.cells #[.int .i64 x.plan.nodes,.int .i64 x.plan.secret,.int .i64 x.plan.fuel,.slice E1 L1 q1,.slice E2 L2 q2,.slice E3 L3 q3,.slice E4 L4 q4,.slice E5 L5 q5,.int .i64 x.now,.slice E6 L6 q6,.slice E7 L7 q7] 56 (0,0)):=Zau Np 10 _
   have Nr5:=Zav (p:=⟨w.heap.size,10,none⟩) (Zab Nr4 hb7) (show w.heap.size+1≠w.heap.size by omega) (.slice E7 L7 q7)
   replace h1:=Zae (Zah (Zaj (Zaf h1) hb7) (w1:=(w7.setCell ⟨w.heap.size,10,none⟩ (.slice E7 L7 q7))) (fun k hk _=>Below.heap_setCell w7 ⟨w.heap.size,10,none⟩ _ k (by (try dsimp only at hk ⊢);omega))) (fun _ h=>h.1)
   replace h2:=Zae (Zah (Zaj (Zaf h2) hb7) (w1:=(w7.setCell ⟨w.heap.size,10,none⟩ (.slice E7 L7 q7))) (fun k hk _=>Below.heap_setCell w7 ⟨w.heap.size,10,none⟩ _ k (by (try dsimp only at hk ⊢);omega))) (fun _ h=>h.1)
   replace h3:=Zae (Zah (Zaj (Zaf h3) hb7) (w1:=(w7.setCell ⟨w.heap.size,10,none⟩ (.slice E7 L7 q7))) (fun k hk _=>Below.heap_setCell w7 ⟨w.heap.size,10,none⟩ _ k (by (try dsimp only at hk ⊢);omega))) (fun _ h=>h.1)
   replace h4:=Zae (Zah (Zaj (Zaf h4) hb7) (w1:=(w7.setCell ⟨w.heap.size,10,none⟩ (.slice E7 L7 q7))) (fun k hk _=>Below.heap_setCell w7 ⟨w.heap.size,10,none⟩ _ k (by (try dsimp only at hk ⊢);omega))) (fun _ h=>h.1)
   replace h5:=Zae (Zah (Zaj (Zaf h5) hb7) (w1:=(w7.setCell ⟨w.heap.size,10,none⟩ (.slice E7 L7 q7))) (fun k hk _=>Below.heap_setCell w7 ⟨w.heap.size,10,none⟩ _ k (by (try dsimp only at hk ⊢);omega))) (fun _ h=>h.1)
   replace h6:=Zae (Zah (Zaj (Zaf h6) hb7) (w1:=(w7.setCell ⟨w.heap.size,10,none⟩ (.slice E7 L7 q7))) (fun k hk _=>Below.heap_setCell w7 ⟨w.heap.size,10,none⟩ _ k (by (try dsimp only at hk ⊢);omega))) (fun _ h=>h.1)
   replace h7:=Zaf (Zah h7 (w1:=(w7.setCell ⟨w.heap.size,10,none⟩ (.slice E7 L7 q7))) (fun k hk _=>Below.heap_setCell w7 ⟨w.heap.size,10,none⟩ _ k (by (try dsimp only at hk ⊢);omega)))
   have hy4:W3.heap.size≤(w7.setCell ⟨w.heap.size,10,none⟩ (.slice E7 L7 q7)).heap.size:=by have:=hb7.size;simpa [World.setCell] using this
   clear a hb7 Np e7 f7 Np5 Nr4
   generalize (w7.setCell ⟨w.heap.size,10,none⟩ (.slice E7 L7 q7))=W4 at *
   go_wp2_with (refine Zen 56 1 2 33 w.heap.size (w.heap.size+1) #[.int .i64 x.plan.nodes,.int .i64 x.plan.secret,.int .i64 x.plan.fuel,.slice E1 L1 q1,.slice E2 L2 q2,.slice E3 L3 q3,.slice E4 L4 q4,.slice E5 L5 q5,.int .i64 x.now,.slice E6 L6 q6,.slice E7 L7 q7] #[.int .i64 0,.int .i64 0,.int .i64 0,.slice none 0 0,.slice none 0 0,.slice none 0 0,.slice none 0 0,.slice none 0 0,.int .i64 0,.slice none 0 0,.slice none 0 0] 56 56 _ ⟨rfl,rfl,rfl⟩ ⟨rfl,rfl,rfl⟩ rfl rfl (by decide) (show 33<34 by decide) Np6 Nr5 Tryz.underlying56 rfl (by kernel_rfl) rfl (by simp [Value.oneCell']) ?_;intro wz Nz hkz)
   refine bodyPost_ret (results_cell_row rfl _ _ (w.heap.size+1) 56 #[.int .i64 x.plan.nodes,.int .i64 x.plan.secret,.int .i64 x.plan.fuel,.slice E1 L1 q1,.slice E2 L2 q2,.slice E3 L3 q3,.slice E4 L4 q4,.slice E5 L5 q5,.int .i64 x.now,.slice E6 L6 q6,.slice E7 L7 q7] (0,0) _ rfl Nz Tryz.underlying56 rfl (by kernel_rfl)) rfl ?_
   refine ⟨⟨_,rfl,Zvy (fun k=>if k<W1.heap.size then ff k else if k<W2.heap.size then 7 else if k<W3.heap.size then 9 else 10) (Zae (Zah h1 (fun k hk hl=>hkz.block k hl (fun e=>by (try dsimp only at hk e);omega))) (fun k hk=>⟨by (try dsimp only at hk ⊢);omega,by (try dsimp only at hk ⊢);rw [if_pos (by omega)];exact hk.1.2⟩)) (Zae (Zah h2 (fun k hk hl=>hkz.block k hl (fun e=>by (try dsimp only at hk e);omega))) (fun k hk=>⟨by (try dsimp only at hk ⊢);omega,by (try dsimp only at hk ⊢);rw [if_pos (by omega)];exact hk.1.2⟩)) (Zae (Zah h3 (fun k hk hl=>hkz.block k hl (fun e=>by (try dsimp only at hk e);omega))) (fun k hk=>⟨by (try dsimp only at hk ⊢);omega,by (try dsimp only at hk ⊢);rw [if_pos (by omega)];exact hk.1.2⟩)) (Zae (Zah h4 (fun k hk hl=>hkz.block k hl (fun e=>by (try dsimp only at hk e);omega))) (fun k hk=>⟨by (try dsimp only at hk ⊢);omega,by (try dsimp only at hk ⊢);rw [if_pos (by omega)];exact hk.1.2⟩)) (Zae (Zah h5 (fun k hk hl=>hkz.block k hl (fun e=>by (try dsimp only at hk e);omega))) (fun k hk=>⟨by (try dsimp only at hk ⊢);omega,by (try dsimp only at hk ⊢);rw [if_neg (by omega)];rw [if_pos (by omega)]⟩)) (Zae (Zah h6 (fun k hk hl=>hkz.block k hl (fun e=>by (try dsimp only at hk e);omega))) (fun k hk=>⟨by (try dsimp only at hk ⊢);omega,by (try dsimp only at hk ⊢);rw [if_neg (by omega)];rw [if_neg (by omega)];rw [if_pos (by omega)]⟩)) (Zae (Zah h7 (fun k hk hl=>hkz.block k hl (fun e=>by (try dsimp only at hk e);omega))) (fun k hk=>⟨by (try dsimp only at hk ⊢);omega,by (try dsimp only at hk ⊢);rw [if_neg (by omega)];rw [if_neg (by omega)];rw [if_neg (by omega)]⟩))⟩,HB5.trans ⟨hkz.os,hkz.tape,hkz.output,hkz.size,fun b_ hb=>hkz.block b_ (by have:=HB5.size;omega) (fun e=>by omega)⟩⟩
end Go.Proofs.YtaeckoinpllpnaaGreat
