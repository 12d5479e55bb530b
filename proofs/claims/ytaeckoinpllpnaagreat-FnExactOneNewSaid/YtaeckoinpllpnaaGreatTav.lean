/- Part 22 of the proof of its last text: this session's own texts, shortened and joined by a program of its own (wip/pack.py). -/
import Derived.Test.YtaeckoinpllpnaaGreatTaa
import Derived.Test.YtaeckoinpllpnaaGreatTas
import Derived.Test.YtaeckoinpllpnaaGreatTae
import Derived.Test.YtaeckoinpllpnaaGreatTau
import Derived.Test.YtaeckoinpllpnaaGreatTap
set_option linter.unusedVariables false
set_option linter.unusedSimpArgs false
set_option maxHeartbeats 16000000
set_option maxRecDepth 100000
namespace Go.Proofs.YtaeckoinpllpnaaGreat
open Go.RowKit Go.Proofs.YtaeckoinpllpnaaGreatW.PrintWords Go.Proofs.YtaeckoinpllpnaaGreatW.PrintLast
theorem Zpg (x:Pln) (n:Nat) (hx:Sane x n) (ps:List Value) (w:World) (hP:allK w x kPln ps) (A1 A2 A3 A4 A5 A6 A7:Option Addr) (c1 c2 c3 c4 c5 c6 c7:Nat) (hR:NoR w x n A1 A2 A3 A4 A5 A6 A7) (hok:Zcz x=true) (at_:Nat) (hat:at_<n) :
  Calls Tryz.prog 56 #[.agg ps.toArray,.agg #[.bool false,.int .i64 0,.int .i64 0,.slice A1 x.cells.length c1,.slice A2 x.ways.length c2,.slice A3 x.ways.length c3,.slice A4 x.ways.length c4,.slice A5 x.ways.length c5,.slice A6 n c6,.slice A7 n c7],.int .i64 at_] w fun e w'=>(∃ cs:List Value,e=.returned (.agg cs.toArray)∧Own kNod w' (fun k=>w.heap.size≤k) (Zbm x 1 true) cs)∧Below w.heap.size w w':=by
 have hPP:=hP
 have hxx:=hx
 obtain ⟨B1,d1,B2,d2,B3,d3,B4,d4,rfl,l1,r1,l2,r2,l3,r3,l4,r4⟩:=Zcs hP
 obtain ⟨hn,n1,n4,hcel,hway,hdep,hend,hnod⟩:=hx
 clear hn
 have qO:=fun (w1:World) (h:Below w.heap.size w w1)=>Zsm x n hxx _ w1 (Zai h hPP) 0 false (Or.inl ⟨rfl,rfl⟩) A1 A2 A3 A4 A5 A6 A7 c1 c2 c3 c4 c5 c6 c7 (hR.below h) hok at_ hat
 have qR:=fun (w1:World) (h:Below w.heap.size w w1)=>Zpf x n hxx _ w1 (Zai h hPP) A1 A2 A3 A4 A5 A6 A7 c1 c2 c3 c4 c5 c6 c7 at_ hat
 have hb0:=(((Below.refl w.heap.size w).alloc nlr_ (.cells #[.int .i64 x.nodes,.int .i64 x.secret,.int .i64 x.fuel,.slice B1 x.cells.length d1,.slice B2 x.ways.length d2,.slice B3 x.slots.length d3,.slice B4 x.turns.length d4] 33)).alloc (by simp) (.cells #[.bool false,.int .i64 0,.int .i64 0,.slice A1 x.cells.length c1,.slice A2 x.ways.length c2,.slice A3 x.ways.length c3,.slice A4 x.ways.length c4,.slice A5 x.ways.length c5,.slice A6 n c6,.slice A7 n c7] 98)).alloc (by simp;omega) (.cells #[.bool false,.int .i64 0,.int .i64 0,.slice none 0 0,.slice none 0 0,.slice none 0 0,.slice none 0 0,.slice none 0 0,.slice none 0 0,.slice none 0 0] 98)
 have Np:=Zal (Zal (Zas w (.cells #[.int .i64 x.nodes,.int .i64 x.secret,.int .i64 x.fuel,.slice B1 x.cells.length d1,.slice B2 x.ways.length d2,.slice B3 x.slots.length d3,.slice B4 x.turns.length d4] 33)) (.cells #[.bool false,.int .i64 0,.int .i64 0,.slice A1 x.cells.length c1,.slice A2 x.ways.length c2,.slice A3 x.ways.length c3,.slice A4 x.ways.length c4,.slice A5 x.ways.length c5,.slice A6 n c6,.slice A7 n c7] 98)) (.cells #[.bool false,.int .i64 0,.int .i64 0,.slice none 0 0,.slice none 0 0,.slice none 0 0,.slice none 0 0,.slice none 0 0,.slice none 0 0,.slice none 0 0] 98)
 have Nn:(((w.alloc (.cells #[.int .i64 x.nodes,.int .i64 x.secret,.int .i64 x.fuel,.slice B1 x.cells.length d1,.slice B2 x.ways.length d2,.slice B3 x.slots.length d3,.slice B4 x.turns.length d4] 33)).alloc (.cells #[.bool false,.int .i64 0,.int .i64 0,.slice A1 x.cells.length c1,.slice A2 x.ways.length c2,.slice A3 x.ways.length c3,.slice A4 x.ways.length c4,.slice A5 x.ways.length c5,.slice A6 n c6,.slice A7 n c7] 98)).alloc (.cells #[.bool false,.int .i64 0,.int .i64 0,.slice none 0 0,.slice none 0 0,.slice none 0 0,.slice none 0 0,.slice none 0 0,.slice none 0 0,.slice none 0 0] 98)).heap[w.heap.size+1]? = _:=Zal (Zbs (w.alloc (.cells #[.int .i64 x.nodes,.int .i64 x.secret,.int .i64 x.fuel,.slice B1 x.cells.length d1,.slice B2 x.ways.length d2,.slice B3 x.slots.length d3,.slice B4 x.turns.length d4] 33)) (.cells #[.bool false,.int .i64 0,.int .i64 0,.slice A1 x.cells.length c1,.slice A2 x.ways.length c2,.slice A3 x.ways.length c3,.slice A4 x.ways.length c4,.slice A5 x.ways.length c5,.slice A6 n c6,.slice A7 n c7] 98) (by simp)) (.cells #[.bool false,.int .i64 0,.int .i64 0,.slice none 0 0,.slice none 0 0,.slice none 0 0,.slice none 0 0,.slice none 0 0,.slice none 0 0,.slice none 0 0] 98)
 have Nr:(((w.alloc (.cells #[.int .i64 x.nodes,.int .i64 x.secret,.int .i64 x.fuel,.slice B1 x.cells.length d1,.slice B2 x.ways.length d2,.slice B3 x.slots.length d3,.slice B4 x.turns.length d4] 33)).alloc (.cells #[.bool false,.int .i64 0,.int .i64 0,.slice A1 x.cells.length c1,.slice A2 x.ways.length c2,.slice A3 x.ways.length c3,.slice A4 x.ways.length c4,.slice A5 x.ways.length c5,.slice A6 n c6,.slice A7 n c7] 98)).alloc (.cells #[.bool false,.int .i64 0,.int .i64 0,.slice none 0 0,.slice none 0 0,.slice none 0 0,.slice none 0 0,.slice none 0 0,.slice none 0 0,.slice none 0 0] 98)).heap[w.heap.size+1+1]? = _:=Zbs ((w.alloc (.cells #[.int .i64 x.nodes,.int .i64 x.secret,.int .i64 x.fuel,.slice B1 x.cells.length d1,.slice B2 x.ways.length d2,.slice B3 x.slots.length d3,.slice B4 x.turns.length d4] 33)).alloc (.cells #[.bool false,.int .i64 0,.int .i64 0,.slice A1 x.cells.length c1,.slice A2 x.ways.length c2,.slice A3 x.ways.length c3,.slice A4 x.ways.length c4,.slice A5 x.ways.length c5,.slice A6 n c6,.slice A7 n c7] 98)) (.cells #[.bool false,.int .i64 0,.int .i64 0,.slice none 0 0,.slice none 0 0,.slice none 0 0,.slice none 0 0,.slice none 0 0,.slice none 0 0,.slice none 0 0] 98) (by simp)
 go_enter Tryz.func56,Tryz.ntmps56
 go_upto_region 1 with (fail)
 change Code.wp _ _ _ _ (((w.alloc (.cells #[.int .i64 x.nodes,.int .i64 x.secret,.int .i64 x.fuel,.slice B1 x.cells.length d1,.slice B2 x.ways.length d2,.slice B3 x.slots.length d3,.slice B4 x.turns.length d4] 33)).alloc (.cells #[.bool false,.int .i64 0,.int .i64 0,.slice A1 x.cells.length c1,.slice A2 x.ways.length c2,.slice A3 x.ways.length c3,.slice A4 x.ways.length c4,.slice A5 x.ways.length c5,.slice A6 n c6,.slice A7 n c7] 98)).alloc (.cells #[.bool false,.int .i64 0,.int .i64 0,.slice none 0 0,.slice none 0 0,.slice none 0 0,.slice none 0 0,.slice none 0 0,.slice none 0 0,.slice none 0 0] 98))
 generalize (((w.alloc (.cells #[.int .i64 x.nodes,.int .i64 x.secret,.int .i64 x.fuel,.slice B1 x.cells.length d1,.slice B2 x.ways.length d2,.slice B3 x.slots.length d3,.slice B4 x.turns.length d4] 33)).alloc (.cells #[.bool false,.int .i64 0,.int .i64 0,.slice A1 x.cells.length c1,.slice A2 x.ways.length c2,.slice A3 x.ways.length c3,.slice A4 x.ways.length c4,.slice A5 x.ways.length c5,.slice A6 n c6,.slice A7 n c7] 98)).alloc (.cells #[.bool false,.int .i64 0,.int .i64 0,.slice none 0 0,.slice none 0 0,.slice none 0 0,.slice none 0 0,.slice none 0 0,.slice none 0 0,.slice none 0 0] 98))=W at *
 obtain ⟨p0,p1,p2,p3,p4,p5,p6⟩:=cellsP7 Np;obtain ⟨k0,k1,k2,k3,k4,k5,k6,k7,k8,k9⟩:=cellsP10 Nn
 go_upto_region 3 with (go_at_call 101;with_reducible refine (qO _ hb0).mono ?_;rintro e w2 ⟨rfl,hb7⟩;have hb1:=hb0.trans (hb7.mono hb0.size);have Np1:=Zab Np hb7;have Nn1:=Zab Nn hb7;have Nr1:=Zab Nr hb7;clear p0 p1 p2 p3 p4 p5 p6 k0 k1 k2 k3 k4 k5 k6 k7 k8 k9;obtain ⟨p0,p1,p2,p3,p4,p5,p6⟩:=cellsP7 Np1;obtain ⟨k0,k1,k2,k3,k4,k5,k6,k7,k8,k9⟩:=cellsP10 Nn1)
 go_wp2_with (first
  | (go_at_call 102;with_reducible refine (qR _ hb1).mono ?_;rintro e w3 ⟨⟨cs1,rfl,hO1⟩,hb8⟩;have Nr2:=Zab Nr1 hb8;have hb2:=hb1.trans (hb8.mono hb1.size);obtain ⟨u1,u2,u3,u4,u5,u6,u7,ff,rfl,h1,h2,h3,h4,h5,h6,h7⟩:=Zgc hO1;obtain ⟨E1,L1,g1,rfl⟩:=Zba h1;obtain ⟨E2,L2,g2,rfl⟩:=Zba h2;obtain ⟨E3,L3,g3,rfl⟩:=Zba h3;obtain ⟨E4,L4,g4,rfl⟩:=Zba h4;obtain ⟨E5,L5,g5,rfl⟩:=Zba h5;obtain ⟨E6,L6,g6,rfl⟩:=Zba h6;obtain ⟨E7,L7,g7,rfl⟩:=Zba h7)
  | (refine Zey 98 (.tmp 6) (.tmp 16) ⟨rfl,rfl,rfl⟩ (w.heap.size+1+1) #[.bool true,.int .i64 1,.int .i64 0,.slice E1 L1 g1,.slice E2 L2 g2,.slice E3 L3 g3,.slice E4 L4 g4,.slice E5 L5 g5,.slice E6 L6 g6,.slice E7 L7 g7] rfl rfl 98 #[.bool false,.int .i64 0,.int .i64 0,.slice none 0 0,.slice none 0 0,.slice none 0 0,.slice none 0 0,.slice none 0 0,.slice none 0 0,.slice none 0 0] Nr2 (by kernel_rfl) rfl (by simp [Value.oneCell']) ?_;intro w4 N4 hk))
 refine bodyPost_ret (results_cell_row rfl _ _ (w.heap.size+1+1) 98 #[.bool true,.int .i64 1,.int .i64 0,.slice E1 L1 g1,.slice E2 L2 g2,.slice E3 L3 g3,.slice E4 L4 g4,.slice E5 L5 g5,.slice E6 L6 g6,.slice E7 L7 g7] (0,0) _ rfl N4 Tryz.underlying98 rfl (by kernel_rfl)) rfl ?_
 have hw1:=hb1.size
 have hW2:w.heap.size+1+1<w2.heap.size:=Zao Nr1
 have HR:NodR w4 (fun k=>w2.heap.size≤k) (Zbm x 1 true) ff (.slice E1 L1 g1) (.slice E2 L2 g2) (.slice E3 L3 g3) (.slice E4 L4 g4) (.slice E5 L5 g5) (.slice E6 L6 g6) (.slice E7 L7 g7):=(show NodR w3 (fun k=>w2.heap.size≤k) (Zbm x 1 true) ff (.slice E1 L1 g1) (.slice E2 L2 g2) (.slice E3 L3 g3) (.slice E4 L4 g4) (.slice E5 L5 g5) (.slice E6 L6 g6) (.slice E7 L7 g7) from ⟨h1,h2,h3,h4,h5,h6,h7⟩).step (fun k hk1 hl=>hk.block k hl (fun e=>by omega))
 exact ⟨⟨_,rfl,Zbx HR.own (fun k hk1=>by omega)⟩,hb2.trans ⟨hk.os,hk.tape,hk.output,hk.size,fun b_ hb=>hk.block b_ (by have:=hb2.size;omega) (fun e=>by omega)⟩⟩
theorem Zrf (x:Pln) (n:Nat) (hx:Sane x n) (hok:Zcz x=true) (hsm1:∀ (j:Nat) (z:Cel),x.cells[j]? = some z→z.code.length≤1048576) (hsm2:∀ (j:Nat) (z:Wy),x.ways[j]? = some z→z.guard.length≤1048576) (hl3:x.slots.length≤1048576) (hl4:x.turns.length≤1048576) (hsm4:∀ (j:Nat) (z:List Int),x.turns[j]? = some z→z.length≤1048576) (ps:List Value) (w:World) (hP:allK w x kPln ps) :
  Calls Tryz.prog 18 #[.agg ps.toArray] w fun e w'=>(∃ cs:List Value,e=.returned (.agg cs.toArray)∧Own kWld w' (fun k=>w.heap.size≤k) (Zee x) cs)∧Below w.heap.size w w':=by
 have hPP:=hP
 have hxx:=hx
 obtain ⟨B1,d1,B2,d2,B3,d3,B4,d4,rfl,l1,r1,l2,r2,l3,r3,l4,r4⟩:=Zcs hP
 obtain ⟨hn,n1,n4,hcel,hway,hdep,hend,hnod⟩:=hx
 have qP:=fun (w1:World) (h:Below w.heap.size w w1)=>Zeu x _ w1 (Zai h hPP)
 rw [hok] at qP
 have qC:=fun (w1:World) (h:Below w.heap.size w w1)=>Zjb x _ w1 (Zai h hPP) hsm1 hsm2 (by omega) (by omega) hl3 hl4 hsm4
 have qN:=fun (w1:World) (h:Below w.heap.size w w1) (k:Nat) (hk:k<n)=>Zre x n hxx hok _ w1 (Zai h hPP) k hk
 have qR:=fun (w1:World) (h:Below w.heap.size w w1)=>Zpg x n hxx _ w1 (Zai h hPP)
 obtain ⟨W,eW,hb0,Np,Nr⟩:=new2 w (.cells #[.int .i64 x.nodes,.int .i64 x.secret,.int .i64 x.fuel,.slice B1 x.cells.length d1,.slice B2 x.ways.length d2,.slice B3 x.slots.length d3,.slice B4 x.turns.length d4] 33) (.cells #[.int .i64 0,.int .i64 0,.int .i64 0,.slice none 0 0,.slice none 0 0,.slice none 0 0,.slice none 0 0,.slice none 0 0,.int .i64 0,.slice none 0 0,.slice none 0 0] 56)
 have hnn:=hn
 have hltn:∀ k:Nat,decide ((k:Int)<x.nodes)=decide (k<n):=fun k=>by rw [hnn];simp
 clear hn hnn
 go_enter Tryz.func18,Tryz.ntmps18
 go_upto_region 1 with (fail)
 refine wp_at eW ?_
 clear eW
 obtain ⟨p0,p1,p2,p3,p4,p5,p6⟩:=cellsP7 Np
 go_upto_region 3 with (go_at_call 54;with_reducible refine (qP _ hb0).mono ?_;rintro e w2 ⟨rfl,hb7⟩;have hb1:=hb0.trans (hb7.mono hb0.size);have Np1:=Zab Np hb7;have Nr1:=Zab Nr hb7;clear p0 p1 p2 p3 p4 p5 p6;obtain ⟨p0,p1,p2,p3,p4,p5,p6⟩:=cellsP7 Np1)
 go_upto_region 4 with (go_at_call 55;with_reducible refine (qC _ hb1).mono ?_;rintro e w3 ⟨⟨cs1,rfl,hO1⟩,hb8⟩;have hb2:=hb1.trans (hb8.mono hb1.size);have hO9:=hO1;obtain ⟨v1,v2,v3,v4,fp,rfl,i1,i2,i3,i4⟩:=Zho hO1;obtain ⟨P1,M1,q1,rfl⟩:=Zba i1;obtain ⟨P2,M2,q2,rfl⟩:=Zba i2;obtain ⟨P3,M3,q3,rfl⟩:=Zba i3;obtain ⟨P4,M4,q4,rfl⟩:=Zba i4)
 have hWs:w.heap.size+1<w2.heap.size:=Zao Nr1
 have hs8:=hb8.size
 change Code.wp _ _ _ _ (w3.alloc (.cells #[.int .i64 x.nodes,.int .i64 x.secret,.int .i64 x.fuel,.slice P1 M1 q1,.slice P2 M2 q2,.slice P3 M3 q3,.slice P4 M4 q4,.slice none 0 0,.int .i64 0,.slice none 0 0,.slice none 0 0] 56))
 have Np2:=Zal (Zab Np1 hb8) (.cells #[.int .i64 x.nodes,.int .i64 x.secret,.int .i64 x.fuel,.slice P1 M1 q1,.slice P2 M2 q2,.slice P3 M3 q3,.slice P4 M4 q4,.slice none 0 0,.int .i64 0,.slice none 0 0,.slice none 0 0] 56)
 have Nr2:=Zal (Zab Nr1 hb8) (.cells #[.int .i64 x.nodes,.int .i64 x.secret,.int .i64 x.fuel,.slice P1 M1 q1,.slice P2 M2 q2,.slice P3 M3 q3,.slice P4 M4 q4,.slice none 0 0,.int .i64 0,.slice none 0 0,.slice none 0 0] 56)
 have Ng:=Zas w3 (.cells #[.int .i64 x.nodes,.int .i64 x.secret,.int .i64 x.fuel,.slice P1 M1 q1,.slice P2 M2 q2,.slice P3 M3 q3,.slice P4 M4 q4,.slice none 0 0,.int .i64 0,.slice none 0 0,.slice none 0 0] 56)
 have HB:=hb2.alloc hb2.size (.cells #[.int .i64 x.nodes,.int .i64 x.secret,.int .i64 x.fuel,.slice P1 M1 q1,.slice P2 M2 q2,.slice P3 M3 q3,.slice P4 M4 q4,.slice none 0 0,.int .i64 0,.slice none 0 0,.slice none 0 0] 56)
 have HO:=Zbj (Zcj hO9) ((Below.refl w3.heap.size w3).alloc nlr_ (.cells #[.int .i64 x.nodes,.int .i64 x.secret,.int .i64 x.fuel,.slice P1 M1 q1,.slice P2 M2 q2,.slice P3 M3 q3,.slice P4 M4 q4,.slice none 0 0,.int .i64 0,.slice none 0 0,.slice none 0 0] 56))
 generalize w3.alloc (.cells #[.int .i64 x.nodes,.int .i64 x.secret,.int .i64 x.fuel,.slice P1 M1 q1,.slice P2 M2 q2,.slice P3 M3 q3,.slice P4 M4 q4,.slice none 0 0,.int .i64 0,.slice none 0 0,.slice none 0 0] 56)=W4 at *
 generalize hg:w3.heap.size=g at *
 have HN:P8 W4 (fun k=>w.heap.size≤k∧k≠w.heap.size∧k≠w.heap.size+1∧k≠g) (fun _=>0) (pOwn kPln x [.int .i64 x.nodes,.int .i64 x.secret,.int .i64 x.fuel,.slice P1 M1 q1,.slice P2 M2 q2,.slice P3 M3 q3,.slice P4 M4 q4]) (pRw kNod 98 (.slice none 0 0) ([])) (pRw Zbv 117 (.slice none 0 0) ([])) Zbw Zbw Zbw Zbw Zbw:=⟨Zbx HO (fun k hk=>⟨by omega,rfl⟩),Zbq _ _ _ _,Zbq _ _ _ _,trivial,trivial,trivial,trivial,trivial,Zxn _ _ _,pcRw _ _ _ _,pcRw _ _ _ _,Zet,Zet,Zet,Zet,Zet⟩
 clear p0 p1 p2 p3 p4 p5 p6 hO1 hO9 HO i1 i2 i3 i4 hb8 hb2 hb7 hb1 Np1 Nr1 Np Nr
 go_wp2
 go_loopw [4] (fun i wr=>∃ (k:Nat) (u1:Value) (f:Nat→Nat),k≤n∧i=.int .i64 k∧wr.heap[g]? = some (.cells #[.int .i64 x.nodes,.int .i64 x.secret,.int .i64 x.fuel,.slice P1 M1 q1,.slice P2 M2 q2,.slice P3 M3 q3,.slice P4 M4 q4,u1,.int .i64 0,.slice none 0 0,.slice none 0 0] 56 (0,0))∧wr.heap[w.heap.size+1]? = some (.cells #[.int .i64 0,.int .i64 0,.int .i64 0,.slice none 0 0,.slice none 0 0,.slice none 0 0,.slice none 0 0,.slice none 0 0,.int .i64 0,.slice none 0 0,.slice none 0 0] 56 (0,0))∧wr.heap[w.heap.size]? = some (.cells #[.int .i64 x.nodes,.int .i64 x.secret,.int .i64 x.fuel,.slice B1 x.cells.length d1,.slice B2 x.ways.length d2,.slice B3 x.slots.length d3,.slice B4 x.turns.length d4] 33 (0,0))∧P8 wr (fun k=>w.heap.size≤k∧k≠w.heap.size∧k≠w.heap.size+1∧k≠g) f (pOwn kPln x [.int .i64 x.nodes,.int .i64 x.secret,.int .i64 x.fuel,.slice P1 M1 q1,.slice P2 M2 q2,.slice P3 M3 q3,.slice P4 M4 q4]) (pRw kNod 98 (u1) (List.replicate k (Zbm x 1 true))) (pRw Zbv 117 (.slice none 0 0) ([])) Zbw Zbw Zbw Zbw Zbw∧Below w.heap.size w wr) (fun i _=>n-(intOf i).toNat)
 case atStart=>exact ⟨0,_,_,Nat.zero_le _,rfl,Ng,Nr2,Np2,HN,HB⟩
 case round =>
  clear Ng Nr2 Np2 HN HB
  obtain ⟨k,u1,f,hk,rfl,Ng,Nr,Np,HN,HB⟩:=hrel
  have hgl:=Zao Ng
  have hd9:=hltn k
  by_cases hlt:k<n
  ·rw [decide_eq_true hlt] at hd9
   have p0:=cellsP1 Np
   go_wp2_with (fail)
   clear p0
   have hgu:some g≠u1.ownBlock:=(fun e=>by have:=((Zca HN.r1) _ e.symm).1;(try dsimp only at this);omega)
   have hpu:some w.heap.size≠u1.ownBlock:=(fun e=>by have:=((Zca HN.r1) _ e.symm).1;(try dsimp only at this);omega)
   refine Zcf 12 u1.ownBlock [11] (by kernel_rfl) rfl rfl ?_
   intro Wd hd hs
   have Ng_d:=Zab Ng hd
   have Nr_d:=Zab Nr hd
   have Np_d:=Zab Np hd
   have HNd:=HN.step (w1:=Wd) (fun k _ hl=>hd.block k hl)
   have HB_d:=HB.trans (hd.mono HB.size)
   refine head2 12 0 19 20 3 53 56 1 7 g (u:=u1) ⟨rfl,rfl⟩ (by kernel_rfl) ⟨rfl,rfl,rfl⟩ ⟨rfl,rfl,rfl⟩ rfl (show 19<44 by decide) (fun w1=>by go_simp) (fun w1 h=>by go_simp) (fun w1 hk=>hk.cell Ng_d hgu rfl) (Zbc.refl _ _) (fun _ _ _ d _ h=>by cases d <;> exact h) ?_
   refine Zbb (by simp only [Act.put,pkA,pkB,pkC];rfl) ?_
   refine Zbz (i:=2) (N:=some 21) (v:=.agg #[.int .i64 x.nodes,.int .i64 x.secret,.int .i64 x.fuel,.slice B1 x.cells.length d1,.slice B2 x.ways.length d2,.slice B3 x.slots.length d3,.slice B4 x.turns.length d4]) (upB 12 3) rfl rfl (by kernel_rfl) (fun _ _ _ h=>h) (Or.inl ⟨by rfl,fun w1 hk=>by have N9:=(hk _ (Zao Np_d) hpu).trans Np_d;obtain ⟨p0,p1,p2,p3,p4,p5,p6⟩:=cellsP7 N9;go_simp⟩) (Zbc.refl _ _) (by simp only [Act.put,pkA,pkB,pkC];rfl) ?_
   refine Zbz (i:=3) (N:=some 22) (v:=.agg #[.int .i64 x.nodes,.int .i64 x.secret,.int .i64 x.fuel,.slice B1 x.cells.length d1,.slice B2 x.ways.length d2,.slice B3 x.slots.length d3,.slice B4 x.turns.length d4]) (upB 12 4) rfl rfl (by kernel_rfl) (fun _ _ _ h=>h) (Or.inl ⟨by rfl,fun w1 hk=>by have N9:=(hk _ (Zao Np_d) hpu).trans Np_d;obtain ⟨p0,p1,p2,p3,p4,p5,p6⟩:=cellsP7 N9;go_simp⟩) (Zbc.refl _ _) (by simp only [Act.put,pkA,pkB,pkC];rfl) ?_
   refine mv1 12 4 23 4 rfl (by kernel_rfl) ⟨rfl,rfl,rfl⟩ rfl (fun _ _ _ d _ h=>by cases d <;> exact h) ?_
   refine Zbb (by simp only [Act.put,pkA,pkB,pkC];rfl) ?_
   refine Zap (i:=6) (N:=some 25) (v:=.int .i64 k) #[true,true,true,true,true,false,true,false,false,false,false,false] rfl rfl (by kernel_rfl) (fun _ _ _ h=>h) (Or.inl ⟨by rfl,fun w1=>by go_simp⟩) (by simp only [Act.put,pkA,pkB,pkC];rfl) ?_
   refine Zfd #[true,true,true,true,true,false,true,false,false,false,false,false] (upB 12 7) 5 24 (fun v w1=>∃ cs:List Value,v=.agg cs.toArray∧Own kNod w1 (fun k=>Wd.heap.size≤k) (Zbm x 0 false) cs) rfl (by decide) (by kernel_rfl) rfl rfl rfl Tryz.func57 (by kernel_rfl) rfl #[.agg #[.int .i64 x.nodes,.int .i64 x.secret,.int .i64 x.fuel,.slice B1 x.cells.length d1,.slice B2 x.ways.length d2,.slice B3 x.slots.length d3,.slice B4 x.turns.length d4],.int .i64 k] (by (try simp only [List.map_toArray,List.map_cons,List.map_nil]);first | done | rfl) ((qN Wd HB_d k hlt).mono (fun e w9 h=>⟨match h.1 with | ⟨cs,he,ho⟩=>⟨_,he,cs,rfl,ho⟩,h.2⟩)) (Zbc.refl _ _) nlr_ ?_
   rintro v w0 ⟨cs0,rfl,hp0⟩ hb0_ hk0_
   refine Zbb (by simp only [Act.put,pkA,pkB,pkC];rfl) ?_
   have HB_0:=HB_d.trans (hb0_.mono HB_d.size)
   obtain ⟨A1,c1,A2,c2,A3,c3,A4,c4,A5,c5,A6,c6,A7,c7,rfl,hR0⟩:=Zmb hxx.hn (Zbh hp0)
   refine Zdt 12 7 26 (fun v w1=>∃ cs:List Value,v=.agg cs.toArray∧Own kNod w1 (fun k=>w0.heap.size≤k) (Zbm x 1 true) cs) rfl (by decide) (by kernel_rfl) rfl rfl rfl Tryz.func56 (by kernel_rfl) rfl #[.agg #[.int .i64 x.nodes,.int .i64 x.secret,.int .i64 x.fuel,.slice B1 x.cells.length d1,.slice B2 x.ways.length d2,.slice B3 x.slots.length d3,.slice B4 x.turns.length d4],.agg #[.bool false,.int .i64 0,.int .i64 0,.slice A1 x.cells.length c1,.slice A2 x.ways.length c2,.slice A3 x.ways.length c3,.slice A4 x.ways.length c4,.slice A5 x.ways.length c5,.slice A6 n c6,.slice A7 n c7],.int .i64 k] (by (try simp only [List.map_toArray,List.map_cons,List.map_nil]);first | done | rfl) ((qR w0 HB_0 A1 A2 A3 A4 A5 A6 A7 c1 c2 c3 c4 c5 c6 c7 hR0 hok k hlt).mono (fun e w9 h=>⟨match h.1 with | ⟨cs,he,ho⟩=>⟨_,he,cs,rfl,ho⟩,h.2⟩)) hk0_ hb0_.size ?_
   rintro v w1 ⟨cs1,rfl,hp⟩ hb1_ hk1
   have hb1:=hb0_.trans (hb1_.mono hb0_.size)
   have hsz0:=hb0_.size
   have hsz1:=hb1.size
   have HB_1:=HB_d.trans (hb1.mono HB_d.size)
   obtain ⟨w1_1,w1_2,w1_3,w1_4,w1_5,w1_6,w1_7,f9,rfl,-,-,-,-,-,-,-⟩:=Zgc hp
   refine Zbb (by simp only [Act.put,pkA,pkB,pkC];rfl) ?_
   refine Zcl kNod (w0:=w) 12 8 20 26 27 28 29 3 53 98 56 1 7 44 g (u:=u1) (xs:=List.replicate k (Zbm x 1 true)) (fun k=>(fun k=>w.heap.size≤k∧k≠w.heap.size∧k≠w.heap.size+1∧k≠g) k∧((k<Wd.heap.size∧f k=1)∨Wd.heap.size≤k)) (fun k=>w0.heap.size≤k) ⟨rfl,rfl,rfl,rfl⟩ (by kernel_rfl) ⟨rfl,rfl,rfl⟩ ⟨rfl,rfl,rfl⟩ ⟨rfl,rfl,rfl⟩ ⟨rfl,rfl,rfl⟩ rfl (by decide) rfl rfl (fun w1=>by go_simp <;> (constructor <;> rfl)) (fun w1=>by go_simp) Tryz.underlying53 iNod rfl (by decide) (by omega) (fun _=>by go_simp) hp ?aO ?aT ?aS ?aF HB_1 ?aL hk1 hb1.size Ng_d (show 7<11 by decide) hgu (fun _ _ _ d _ h=>by cases d <;> exact h) ?_
   (case aO=>exact Zae (Zaj (Zaf HNd.r1) hb1) (fun k hk=>by (try dsimp only at hk ⊢);omega))
   (case aT=>exact fun k hk=>by (try dsimp only at hk ⊢);omega)
   (case aS=>exact fun k hk=>by (try dsimp only at hk ⊢);omega)
   (case aF=>exact fun k hk=>by (try dsimp only at hk ⊢);omega)
   (case aL=>simp;omega)
   rintro B L9 d w2 vA vB-hR HB2 hgr hk2 -
   have hob:=fun q (e:u1.ownBlock=some q)=>((Zca HNd.r1) q e).1
   have HN3:=(HNd.app1 hb1 hgr (fun q e=>(hob q e).2) (pcRw _ _ _ _) hR).step (w1:=w2.setCell ⟨g,7,none⟩ (.slice B L9 d)) (fun b_ hk _=>Below.heap_setCell w2 ⟨g,7,none⟩ (.slice B L9 d) b_ (by (try dsimp only at hk ⊢);omega))
   have Ng3:=Zau ((hk2 g (Zao Ng_d) hgu).trans Ng_d) 7 (.slice B L9 d)
   have Nr3:=Zav (p:=⟨g,7,none⟩) ((hk2 _ (Zao Nr_d) (fun e=>by have:=(hob _ e.symm).1;(try dsimp only at this);omega)).trans Nr_d) (show w.heap.size+1≠g by omega) (.slice B L9 d)
   have Np3:=Zav (p:=⟨g,7,none⟩) ((hk2 _ (Zao Np_d) (fun e=>by have:=(hob _ e.symm).1;(try dsimp only at this);omega)).trans Np_d) (show w.heap.size≠g by omega) (.slice B L9 d)
   have HB3:=Zak (j:=7) (v:=.slice B L9 d) HB2 (show w.heap.size≤g by omega)
   simp only [Act.put,pkA,pkB,pkC]
   rw [← List.replicate_succ'] at HN3
   clear HN HNd HB Ng Nr Np Ng_d Nr_d Np_d hd hs hb1 hk1 hp hp0 HB_d HB_1 HB_0 hk2 hgr hR hob HB2 hb0_ hk0_ hb1_ hR0
   go_wp2
   refine ⟨⟨k+1,_,_,by omega,rfl,Ng3,Nr3,Np3,HN3,HB3⟩, ?_⟩
   simp [intOf]
   omega
  ·have e:n=k:=by omega
   subst e
   rw [decide_eq_false (Nat.lt_irrefl _)] at hd9
   have p0:=cellsP1 Np
   go_wp2
   clear p0
   go_loopw [5] (fun i wr=>∃ (k:Nat) (u1 u2:Value) (f:Nat→Nat),k≤x.cells.length∧i=.int .i64 k∧wr.heap[g]? = some (.cells #[.int .i64 x.nodes,.int .i64 x.secret,.int .i64 x.fuel,.slice P1 M1 q1,.slice P2 M2 q2,.slice P3 M3 q3,.slice P4 M4 q4,u1,.int .i64 0,.slice none 0 0,u2] 56 (0,0))∧wr.heap[w.heap.size+1]? = some (.cells #[.int .i64 0,.int .i64 0,.int .i64 0,.slice none 0 0,.slice none 0 0,.slice none 0 0,.slice none 0 0,.slice none 0 0,.int .i64 0,.slice none 0 0,.slice none 0 0] 56 (0,0))∧wr.heap[w.heap.size]? = some (.cells #[.int .i64 x.nodes,.int .i64 x.secret,.int .i64 x.fuel,.slice B1 x.cells.length d1,.slice B2 x.ways.length d2,.slice B3 x.slots.length d3,.slice B4 x.turns.length d4] 33 (0,0))∧P8 wr (fun k=>w.heap.size≤k∧k≠w.heap.size∧k≠w.heap.size+1∧k≠g) f (pOwn kPln x [.int .i64 x.nodes,.int .i64 x.secret,.int .i64 x.fuel,.slice P1 M1 q1,.slice P2 M2 q2,.slice P3 M3 q3,.slice P4 M4 q4]) (pRw kNod 98 (u1) (List.replicate n (Zbm x 1 true))) (pRw Zbv 117 (u2) (List.replicate k ([]:List Sight))) Zbw Zbw Zbw Zbw Zbw∧Below w.heap.size w wr) (fun i _=>x.cells.length-(intOf i).toNat)
   case atStart=>exact ⟨0,_,_,_,Nat.zero_le _,rfl,Ng,Nr,Np,HN,HB⟩
   case round =>
    clear Ng Nr Np HN HB hgl hlt hk hd9
    obtain ⟨k,u1,u2,f,hk,rfl,Ng,Nr,Np,HN,HB⟩:=hrel
    have hgl:=Zao Ng
    obtain ⟨-,-,-,p3⟩:=cellsP4 Np
    by_cases hlt:k<x.cells.length
    ·obtain ⟨-,-,-,-,-,-,-,-,-,-,g10⟩:=cellsP11 Ng
     have hal:Below wr.heap.size wr (wr.alloc (.cells #[] 176)):=(brf_).alloc nlr_ _
     have hasz:=Zcq wr (.cells #[] 176)
     have HBl:=HB.trans (hal.mono HB.size)
     have Ngl:=Zab Ng hal
     have Nrl:=Zab Nr hal
     have Npl:=Zab Np hal
     have HNl:=HN.skipf (w1:=(wr.alloc (.cells #[] 176))) (T:=fun k=>w.heap.size≤k∧k≠w.heap.size∧k≠w.heap.size+1∧k≠g) (g:=lab wr.heap.size f 2) (fun k _ hl=>hal.block k hl) (fun _ hk _=>hk) (fun k _ hl=>Zfq hl)
     have hob:=fun q (e:u2.ownBlock=some q)=>((Zca HN.r2) q e)
     have HO:Rw Zbv 117 (wr.alloc (.cells #[] 176)) (fun k=>((fun k=>w.heap.size≤k∧k≠w.heap.size∧k≠w.heap.size+1∧k≠g) k∧((k<(wr.alloc (.cells #[] 176)).heap.size∧lab wr.heap.size f 2 k=2)∨(wr.alloc (.cells #[] 176)).heap.size≤k))∧¬(k=wr.heap.size)) u2 (List.replicate k ([]:List Sight)):=Zae (Zaj (Zaf HN.r2) hal) (fun k hk=>⟨⟨hk.1.1,Or.inl ⟨by omega,by rw [Zfq hk.2];exact hk.1.2⟩⟩,by omega⟩)
     go_wp2_with ((with_reducible refine Zfo (b:=.append) (xs:=#[.tmp 38,.tmp 40]) rfl ?_);at_builtin;(refine Zdg Zbv (w0:=w) rfl (.tmp 38) (.tmp 40) 38 117 _ _ rfl Tryz.underlying38 Ztp rfl (by decide) (by omega) (u2) (List.replicate k ([]:List Sight)) [] [.slice (some ⟨wr.heap.size,0,none⟩) 0 0] (fun k=>(fun k=>w.heap.size≤k∧k≠w.heap.size∧k≠w.heap.size+1∧k≠g) k∧((k<(wr.alloc (.cells #[] 176)).heap.size∧lab wr.heap.size f 2 k=2)∨(wr.alloc (.cells #[] 176)).heap.size≤k)) (fun k=>k=wr.heap.size) ?aA ?aB ?aP HO ?aT ?aS ?aF HBl ?aL ?_);(case aA=>rfl);(case aB=>simp [Act.eval]);(case aP=>exact Zno (Zfl Zes 176 wr (fun k=>k=wr.heap.size) rfl));(case aT=>exact fun k hk=>⟨by (try dsimp only);omega,Or.inl ⟨by omega,Zta (by omega)⟩⟩);(case aS=>exact fun k hk=>hk.1.1);(case aF=>exact fun k hk=>⟨by (try dsimp only);omega,Or.inr hk⟩);(case aL=>simp;omega);intro v2_ w2 hR4 HB3 hgr hat;obtain ⟨B,L9,d,rfl⟩:=Zba hR4;have Ng3:=Zch Ngl hgr (fun e=>by have:=(hob _ e.symm).1.1;(try dsimp only at this);omega);have Nr3:=Zch Nrl hgr (fun e=>by have:=(hob _ e.symm).1.1;(try dsimp only at this);omega);have Np3:=Zch Npl hgr (fun e=>by have:=(hob _ e.symm).1.1;(try dsimp only at this);omega);obtain ⟨-,-,-,-,-,-,-,-,-,-,e7⟩:=cellsP11 Ng3;have f7:=Zad Ng3 10)
     have HN4:=(HNl.app2 brf_ hgr (fun q e=>by rw [Zfq (hob q e).2];exact (hob q e).1.2) (pcRw _ _ _ _) hR4).step (w1:=w2.setCell ⟨g,10,none⟩ (.slice B L9 d)) (fun b_ hk _=>Below.heap_setCell w2 ⟨g,10,none⟩ (.slice B L9 d) b_ (by (try dsimp only at hk ⊢);omega))
     rw [← List.replicate_succ'] at HN4
     refine ⟨⟨k+1,_,_,_,by omega,rfl,Zau Ng3 10 (.slice B L9 d),Zav (p:=⟨g,10,none⟩) Nr3 (show w.heap.size+1≠g by omega) (.slice B L9 d),Zav (p:=⟨g,10,none⟩) Np3 (show w.heap.size≠g by omega) (.slice B L9 d),HN4,Zak (j:=10) (v:=.slice B L9 d) HB3 (show w.heap.size≤g by omega)⟩, ?_⟩
     simp [intOf]
     omega
    ·have e:k=x.cells.length:=by omega
     subst e
     obtain ⟨E1,L1,g1,rfl⟩:=Zba HN.r1
     obtain ⟨E2,L2,g2,rfl⟩:=Zba HN.r2
     go_wp2_with (refine Zen 56 3 2 43 g (w.heap.size+1) #[.int .i64 x.nodes,.int .i64 x.secret,.int .i64 x.fuel,.slice P1 M1 q1,.slice P2 M2 q2,.slice P3 M3 q3,.slice P4 M4 q4,.slice E1 L1 g1,.int .i64 0,.slice none 0 0,.slice E2 L2 g2] #[.int .i64 0,.int .i64 0,.int .i64 0,.slice none 0 0,.slice none 0 0,.slice none 0 0,.slice none 0 0,.slice none 0 0,.int .i64 0,.slice none 0 0,.slice none 0 0] 56 56 _ ⟨rfl,rfl,rfl⟩ ⟨rfl,rfl,rfl⟩ rfl rfl (by decide) (show 43<44 by decide) Ng Nr Tryz.underlying56 rfl (by kernel_rfl) rfl (by simp [Value.oneCell']) ?_;intro w9 N9 hk9)
     refine bodyPost_ret (results_cell_row rfl _ _ (w.heap.size+1) 56 #[.int .i64 x.nodes,.int .i64 x.secret,.int .i64 x.fuel,.slice P1 M1 q1,.slice P2 M2 q2,.slice P3 M3 q3,.slice P4 M4 q4,.slice E1 L1 g1,.int .i64 0,.slice none 0 0,.slice E2 L2 g2] (0,0) _ rfl N9 Tryz.underlying56 rfl (by kernel_rfl)) rfl ?_
     have HF:=HN.step (w1:=w9) (fun b_ h hl=>hk9.block b_ hl (fun e=>h.2.2.1 e))
     obtain ⟨v1,v2,v3,v4,fp,ep,i1,i2,i3,i4⟩:=Zho HF.r0
     simp only [List.cons.injEq,true_and,and_true] at ep
     obtain ⟨rfl,rfl,rfl,rfl⟩:=ep
     have hxn:Zee x=⟨x,List.replicate n (Zbm x 1 true),0,[],List.replicate x.cells.length []⟩:=by rw [Zee,hxx.hn];rfl
     rw [hxn]
     refine ⟨⟨_,rfl,Zvy (fun k=>if f k=0 then fp k else if f k=1 then 7 else 10) (Zae i1 (fun k hk=>⟨hk.1.1.1,by simp [hk.1.2,hk.2]⟩)) (Zae i2 (fun k hk=>⟨hk.1.1.1,by simp [hk.1.2,hk.2]⟩)) (Zae i3 (fun k hk=>⟨hk.1.1.1,by simp [hk.1.2,hk.2]⟩)) (Zae i4 (fun k hk=>⟨hk.1.1.1,by simp [hk.1.2,hk.2]⟩)) (Zae HF.r1 (fun k hk=>⟨hk.1.1,by simp [hk.2]⟩)) (Zbq _ _ _ _) (Zae HF.r2 (fun k hk=>⟨hk.1.1,by simp [hk.2]⟩))⟩,HB.trans ⟨hk9.os,hk9.tape,hk9.output,hk9.size,fun b_ hb=>hk9.block b_ (by have:=HB.size;omega) (fun e=>by omega)⟩⟩
end Go.Proofs.YtaeckoinpllpnaaGreat
