/- Part 23 of the proof of its last text: this session's own texts, shortened and joined by a program of its own (wip/pack.py). -/
import Derived.Test.YtaeckoinpllpnaaGreatTaa
import Derived.Test.YtaeckoinpllpnaaGreatTav
import Derived.Test.YtaeckoinpllpnaaGreatTaf
set_option linter.unusedVariables false
set_option linter.unusedSimpArgs false
set_option maxHeartbeats 16000000
set_option maxRecDepth 100000
namespace Go.Proofs.YtaeckoinpllpnaaGreat
open Go.RowKit Go.Proofs.YtaeckoinpllpnaaGreatW.PrintWords Go.Proofs.YtaeckoinpllpnaaGreatW.PrintLast
theorem Zzs (w:World) (n:Nat) (hn:n≤100):(Instr.makeSlice 38 (.int .i64 n) (.int .i64 n)).run Tryz.prog w=.ok (.slice (some ⟨w.heap.size,0,none⟩) n n) (w.alloc (.cells (madeCells #[.slice none 0 0] n) 117)):=by
 obtain ⟨i0,hi,hzz⟩:=Option.map_eq_some_iff.1 Ztp
 simp only [Prod.mk.injEq] at hzz
 obtain ⟨hz0,hz1,hz2⟩:=hzz
 have hmk:=run_make (P:=Tryz.prog) w 38 117 i0 _ Tryz.underlying38 hi hz0 .i64 .i64 (n:Int) (n:Int) (by omega) (by omega) (by rw [hz2];omega) (by omega)
 simp only [Int.toNat_natCast] at hmk
 rw [hz1,Nat.mul_one] at hmk
 exact hmk
theorem Zrg (x:Pln) (n:Nat) (hx:Sane x n) (hok:Zcz x=true) (hsm1:∀ (j:Nat) (z:Cel),x.cells[j]? = some z→z.code.length≤1048576) (hsm2:∀ (j:Nat) (z:Wy),x.ways[j]? = some z→z.guard.length≤1048576) (hl3:x.slots.length≤1048576) (hl4:x.turns.length≤1048576) (hsm4:∀ (j:Nat) (z:List Int),x.turns[j]? = some z→z.length≤1048576) (ps:List Value) (w:World) (hP:allK w x kPln ps) :
  Calls Tryz.prog 24 #[.agg ps.toArray] w fun e w'=>(∃ cs:List Value,e=.returned (.agg cs.toArray)∧Own kWld w' (fun k=>w.heap.size≤k) (Zee x) cs)∧Below w.heap.size w w':=by
 have hPP:=hP
 have hxx:=hx
 obtain ⟨B1,d1,B2,d2,B3,d3,B4,d4,rfl,l1,r1,l2,r2,l3,r3,l4,r4⟩:=Zcs hP
 obtain ⟨hn,n1,n4,hcel,hway,hdep,hend,hnod⟩:=hx
 have qP:=fun (w1:World) (h:Below w.heap.size w w1)=>Zge x _ w1 (Zai h hPP)
 rw [hok] at qP
 have qC:=fun (w1:World) (h:Below w.heap.size w w1)=>Ziq x _ w1 (Zai h hPP) hsm1 hsm2 (by omega) (by omega) hl3 hl4 hsm4
 obtain ⟨W0,eW,hb0,Np,Nr⟩:=new2 w (.cells #[.int .i64 x.nodes,.int .i64 x.secret,.int .i64 x.fuel,.slice B1 x.cells.length d1,.slice B2 x.ways.length d2,.slice B3 x.slots.length d3,.slice B4 x.turns.length d4] 33) (.cells #[.int .i64 0,.int .i64 0,.int .i64 0,.slice none 0 0,.slice none 0 0,.slice none 0 0,.slice none 0 0,.slice none 0 0,.int .i64 0,.slice none 0 0,.slice none 0 0] 56)
 have hnn:=hn
 have hltn:∀ k:Nat,decide ((k:Int)<x.nodes)=decide (k<n):=fun k=>by rw [hnn];simp
 have hwn1:=n1
 clear hn hnn
 go_enter Tryz.func24,Tryz.ntmps24
 go_upto_region 1 with (fail)
 refine wp_at eW ?_
 clear eW
 obtain ⟨p0,p1,p2,p3,p4,p5,p6⟩:=cellsP7 Np
 go_upto_region 3 with (go_at_call 66;with_reducible refine (qP _ hb0).mono ?_;rintro e w2 ⟨rfl,hb7⟩;have hb1:=hb0.trans (hb7.mono hb0.size);have Np1:=Zab Np hb7;have Nr1:=Zab Nr hb7;clear p0 p1 p2 p3 p4 p5 p6)
 have hW2:w.heap.size+1<w2.heap.size:=Zao Nr1
 clear hb7 Np Nr hb0
 generalize w2=W at *
 refine Zfm (n:=9) (S:=fun w1=>Below W.heap.size W w1) (ds:=[8]) #[false,false,false,false,false,false,false,false,false] (by kernel_rfl) rfl rfl (Zat (brf_)) (fun hWd=>?_)
 refine Zbz (i:=0) (N:=some 10) (v:=.agg #[.int .i64 x.nodes,.int .i64 x.secret,.int .i64 x.fuel,.slice B1 x.cells.length d1,.slice B2 x.ways.length d2,.slice B3 x.slots.length d3,.slice B4 x.turns.length d4]) #[true,false,false,false,false,false,false,false,false] rfl rfl (by kernel_rfl) (fun _ _ _ h=>h) (Or.inl ⟨by rfl,fun w1 hk=>by have N9:=Zab Np1 hk;obtain ⟨p0,p1,p2,p3,p4,p5,p6⟩:=cellsP7 N9;go_simp⟩) hWd (by simp only [Act.put,pkA,pkB,pkC];rfl) ?_
 refine head2g #[true,false,false,false,false,false,false,false,false] #[true,false,true,false,false,false,false,false,false] #[true,false,true,true,false,false,false,false,false] 2 3 12 13 1 29 33 3 3 w.heap.size (u:=.slice B1 x.cells.length d1) ⟨rfl,rfl⟩ (by kernel_rfl) ⟨rfl,rfl,rfl⟩ ⟨rfl,rfl,rfl⟩ rfl (show 12<35 by decide) (fun w1=>by go_simp) (fun w1 hk=>by obtain ⟨-,-,-,h9⟩:=cellsP4 (Zab Np1 hk);go_simp) hWd (fun _ _ _ d _ h=>by cases d <;> exact h) ?_
 refine Zbb (by simp only [Act.put,pkA,pkB,pkC];rfl) ?_
 refine Zap (i:=4) (N:=some 14) (v:=.int .i64 x.cells.length) #[true,false,true,true,true,false,false,false,false] rfl rfl (by kernel_rfl) (fun _ _ _ h=>h) (Or.inl ⟨by rfl,fun w1=>by go_simp⟩) (by simp only [Act.put,pkA,pkB,pkC];rfl) ?_
 refine Zia 35 W.heap.size [1,6] 5 7 1 1000 15 3 (fun m=>if m=0 then 11 else 16) (fun g=>.slice (some ⟨g,0,none⟩) x.cells.length x.cells.length) (fun g=>.pointer (some ⟨g,0,none⟩)) (.cells (madeCells #[.slice none 0 0] x.cells.length) 117) (.cells #[.int .i64 0,.int .i64 0,.int .i64 0,.slice none 0 0,.slice none 0 0,.slice none 0 0,.slice none 0 0,.slice none 0 0,.int .i64 0,.slice none 0 0,.slice none 0 0] 56) (fun m b1 b2=>#[true,decide (1≤m),true,true,true,b1,decide (2≤m),b2,false]) 1 (fun m a wx T=>a.tmps.size=35∧Sl [(1,.pointer (some ⟨w.heap.size,0,none⟩)),(2,.pointer (some ⟨w.heap.size+1,0,none⟩)),(10,.agg #[.int .i64 x.nodes,.int .i64 x.secret,.int .i64 x.fuel,.slice B1 x.cells.length d1,.slice B2 x.ways.length d2,.slice B3 x.slots.length d3,.slice B4 x.turns.length d4]),(14,.int .i64 x.cells.length)] a∧Below W.heap.size W wx∧(∀ k,T k→W.heap.size≤k)∧(1≤m→∃ P1 M1 q1 P2 M2 q2 P3 M3 q3 P4 M4 q4,a.eval (.tmp 11)=.agg #[.int .i64 x.nodes,.int .i64 x.secret,.int .i64 x.fuel,.slice P1 M1 q1,.slice P2 M2 q2,.slice P3 M3 q3,.slice P4 M4 q4]∧Own kPln wx T x [.int .i64 x.nodes,.int .i64 x.secret,.int .i64 x.fuel,.slice P1 M1 q1,.slice P2 M2 q2,.slice P3 M3 q3,.slice P4 M4 q4]∧(2≤m→∃ gs,a.eval (.tmp 16)=.agg #[.int .i64 x.nodes,.int .i64 x.secret,.int .i64 x.fuel,.slice P1 M1 q1,.slice P2 M2 q2,.slice P3 M3 q3,.slice P4 M4 q4,.slice none 0 0,.int .i64 0,.slice none 0 0,.slice (some ⟨gs,0,none⟩) x.cells.length x.cells.length]∧wx.heap[gs]? = some (.cells (madeCells #[.slice none 0 0] x.cells.length) 117 (0,0))∧¬T gs∧W.heap.size≤gs∧gs<wx.heap.size))) true true (by kernel_rfl) ?hsz ?ht ?hlo ?hS _ ?st1 ?st2 ?hn1 ?hn2 ?hc ?hend 4 0 false false (fun _=>undef) _ _ (fun _=>False) 0 0 rfl (by decide) rfl (fun h=>by cases h) (fun h=>by cases h) (fun h=>rfl) (fun h=>rfl) ?hin (fun _ h=>h.elim) (fun _ h=>by cases h) (fun _ h=>by cases h) (fun _ _ h=>by cases h)
 case hsz=>exact fun m a wx T h=>h.1
 case ht=>exact ⟨by decide,by decide,by decide,fun m=>by split <;> decide⟩
 case hlo=>exact fun m a wx T h=>h.2.2.1.size
 case hS=>exact fun m a wx T h=>h.2.2.1
 case st1 =>
  rintro m a wx T ⟨h1,h2,h3,h4,h5⟩ hT
  have hb9:Below wx.heap.size wx (wx.alloc (.cells (madeCells #[.slice none 0 0] x.cells.length) 117)):=(brf_).alloc nlr_ _
  refine ⟨by rw [Zcb];exact h1,h2.put (by kernel_rfl),h3.alloc h3.size _,h4,fun e=>?_⟩
  obtain ⟨P1,M1,q1,P2,M2,q2,P3,M3,q3,P4,M4,q4,r1,r2,r3⟩:=h5 e
  refine ⟨P1,M1,q1,P2,M2,q2,P3,M3,q3,P4,M4,q4,(Zaq (by decide)).trans r1,Zbj r2 hb9,fun e=>?_⟩
  obtain ⟨gs,s1,s2,s3,s4,s5⟩:=r3 e
  exact ⟨gs,(Zaq (by decide)).trans s1,Zab s2 hb9,s3,s4,by have:=hb9.size;omega⟩
 case st2 =>
  rintro m a wx T ⟨h1,h2,h3,h4,h5⟩ hT
  have hb9:Below wx.heap.size wx (wx.alloc (.cells #[.int .i64 0,.int .i64 0,.int .i64 0,.slice none 0 0,.slice none 0 0,.slice none 0 0,.slice none 0 0,.slice none 0 0,.int .i64 0,.slice none 0 0,.slice none 0 0] 56)):=(brf_).alloc nlr_ _
  refine ⟨by rw [Zcb];exact h1,h2.put (by kernel_rfl),h3.alloc h3.size _,h4,fun e=>?_⟩
  obtain ⟨P1,M1,q1,P2,M2,q2,P3,M3,q3,P4,M4,q4,r1,r2,r3⟩:=h5 e
  refine ⟨P1,M1,q1,P2,M2,q2,P3,M3,q3,P4,M4,q4,(Zaq (by decide)).trans r1,Zbj r2 hb9,fun e=>?_⟩
  obtain ⟨gs,s1,s2,s3,s4,s5⟩:=r3 e
  exact ⟨gs,(Zaq (by decide)).trans s1,Zab s2 hb9,s3,s4,by have:=hb9.size;omega⟩
 case hn1=>exact fun _ m a wx T h=>⟨_,rfl,rfl,rfl,by have e14:a.eval (.tmp 14)=.int .i64 x.cells.length:=h.2.1 (14,.int .i64 x.cells.length) (by simp);have hmk:=Zzs wx x.cells.length (by omega);revert e14;unfold execOp;generalize a.eval=ρ;intro e14;go_simp⟩
 case hn2=>exact fun _ m a wx T h=>⟨_,rfl,rfl,rfl,by unfold execOp;go_simp⟩
 case hc =>
  intro m i hi a wx T g1 g2 ⟨h1,h2,h3,h4,h5⟩ hT hN1 hN2
  match m,hi with
  | 0,hi =>
   obtain rfl:=Option.some.inj hi
   refine ⟨_,rfl,rfl,rfl,fun K hK=>?_⟩
   have e10:a.eval (.tmp 10)=.agg #[.int .i64 x.nodes,.int .i64 x.secret,.int .i64 x.fuel,.slice B1 x.cells.length d1,.slice B2 x.ways.length d2,.slice B3 x.slots.length d3,.slice B4 x.turns.length d4]:=h2 (10,.agg #[.int .i64 x.nodes,.int .i64 x.secret,.int .i64 x.fuel,.slice B1 x.cells.length d1,.slice B2 x.ways.length d2,.slice B3 x.slots.length d3,.slice B4 x.turns.length d4]) (by simp)
   refine Zfw Tryz.func67 (by kernel_rfl) rfl #[.agg #[.int .i64 x.nodes,.int .i64 x.secret,.int .i64 x.fuel,.slice B1 x.cells.length d1,.slice B2 x.ways.length d2,.slice B3 x.slots.length d3,.slice B4 x.turns.length d4]] (Zbn rfl) rfl rfl (by simp only [List.map_toArray,List.map_cons,List.map_nil,e10]) ?_
   refine (qC wx (hb1.trans (h3.mono hb1.size))).mono ?_
   rintro e w3 ⟨⟨cs1,rfl,hO1⟩,hb8⟩
   have hO9:=hO1
   obtain ⟨v1,v2,v3,v4,fp,rfl,i1,i2,i3,i4⟩:=Zho hO1;obtain ⟨P1,M1,q1,rfl⟩:=Zba i1;obtain ⟨P2,M2,q2,rfl⟩:=Zba i2;obtain ⟨P3,M3,q3,rfl⟩:=Zba i3;obtain ⟨P4,M4,q4,rfl⟩:=Zba i4
   have hs8:=hb8.size
   have hs3:=h3.size
   refine ⟨_,rfl, ?_⟩
   refine hK _ _ (fun k=>wx.heap.size≤k∧k<w3.heap.size) ⟨by rw [Zcb];exact h1,h2.put (by kernel_rfl),h3.trans (hb8.mono h3.size),fun k hk=>by omega,fun _=>⟨P1,M1,q1,P2,M2,q2,P3,M3,q3,P4,M4,q4,Zco (by rw [h1];decide),Zbx (Zcj hO9) (fun k hk=>hk),fun e=>by omega⟩⟩ (fun k hk=>hk.2) hb8.size (fun k hk=>Or.inr (Or.inl hk.1)) (fun k hk _ _ _=>hb8.block k hk)
  | 1,hi =>
   obtain rfl:=Option.some.inj hi
   obtain ⟨n1,n2,n3,n4,n5⟩:=hN1 rfl
   obtain ⟨P1,M1,q1,P2,M2,q2,P3,M3,q3,P4,M4,q4,r1,r2,r3⟩:=h5 (by omega)
   refine ⟨_,rfl,rfl,rfl,fun K hK=>?_⟩
   refine Zgd (t:=16) (v:=.agg #[.int .i64 x.nodes,.int .i64 x.secret,.int .i64 x.fuel,.slice P1 M1 q1,.slice P2 M2 q2,.slice P3 M3 q3,.slice P4 M4 q4,.slice none 0 0,.int .i64 0,.slice none 0 0,.slice (some ⟨g1,0,none⟩) x.cells.length x.cells.length]) (w1:=wx) rfl rfl (by revert r1 n1;unfold execOp;generalize a.eval=ρ;intro r1 n1;go_simp <;> rfl) ?_
   exact hK _ _ T ⟨by rw [Zcb];exact h1,h2.put (by kernel_rfl),h3,h4,fun e=>⟨P1,M1,q1,P2,M2,q2,P3,M3,q3,P4,M4,q4,(Zaq (by decide)).trans r1,r2,fun _=>⟨g1,Zco (by rw [h1];decide),n2,n3,n5,n4⟩⟩⟩ hT nlr_ (fun k hk=>Or.inl hk) (fun k _ _ _ _=>rfl)
 case hin=>exact ⟨rfl,fun p hp=>by simp only [List.mem_cons,List.not_mem_nil,or_false] at hp;rcases hp with rfl | rfl | rfl | rfl <;> rfl,hWd,fun _ h=>h.elim,fun e=>by omega⟩
 case hend =>
  intro cv g1 g a wx T ha ⟨h1,h2,h3,h4,h5⟩ hT _ hn2 _
  obtain ⟨P1,M1,q1,P2,M2,q2,P3,M3,q3,P4,M4,q4,r1,r2,r3⟩:=h5 (by decide)
  obtain ⟨gs,s1,s2,s3,s4,s5⟩:=r3 (by decide)
  obtain ⟨k1,k2,k3,k4,k5⟩:=hn2 rfl (by decide)
  have hgs:gs≠g:=Zyx s2 k2 (by decide)
  have z11:cv 0=.agg #[.int .i64 x.nodes,.int .i64 x.secret,.int .i64 x.fuel,.slice P1 M1 q1,.slice P2 M2 q2,.slice P3 M3 q3,.slice P4 M4 q4]:=by rw [ha] at r1;exact r1
  have z16:cv 1=.agg #[.int .i64 x.nodes,.int .i64 x.secret,.int .i64 x.fuel,.slice P1 M1 q1,.slice P2 M2 q2,.slice P3 M3 q3,.slice P4 M4 q4,.slice none 0 0,.int .i64 0,.slice none 0 0,.slice (some ⟨gs,0,none⟩) x.cells.length x.cells.length]:=by rw [ha] at s1;exact s1
  refine Znl (i:=8) (N:=none) #[true,true,true,true,true,true,true,true,true] rfl rfl (by kernel_rfl) (by decide) (fun K hK=>?_)
  refine Zgx rfl rfl 56 (.tmp 3) (.tmp 16) rfl g #[.int .i64 x.nodes,.int .i64 x.secret,.int .i64 x.fuel,.slice P1 M1 q1,.slice P2 M2 q2,.slice P3 M3 q3,.slice P4 M4 q4,.slice none 0 0,.int .i64 0,.slice none 0 0,.slice (some ⟨gs,0,none⟩) x.cells.length x.cells.length] k1 s1 56 #[.int .i64 0,.int .i64 0,.int .i64 0,.slice none 0 0,.slice none 0 0,.slice none 0 0,.slice none 0 0,.slice none 0 0,.int .i64 0,.slice none 0 0,.slice none 0 0] k2 (by kernel_rfl) rfl (by simp [Value.oneCell']) (fun w9 Ng hk=>?_)
  refine hK.out _ _ ?_
  clear hK K
  refine Zgw (by kernel_rfl) ?_
  subst ha
  simp only [canB,Zqg,canC,List.length_cons,List.length_nil,if_true,if_false,Bool.false_eq_true,Nat.zero_add,Nat.reduceAdd,Nat.reduceEqDiff,z11,z16]
  simp only [Act.put,pkA,pkB,pkC]
  clear h1 h2 hn2 hT h5 k1
  have hgw:w.heap.size+1<g:=by omega
  have hw9:Below W.heap.size W w9:=h3.trans ⟨hk.os,hk.tape,hk.output,hk.size,fun k hk1=>hk.block k (by have:=h3.size;omega) (fun e=>by omega)⟩
  have HB:=hb1.trans (hw9.mono hb1.size)
  have Nr:=Zab Nr1 hw9
  have Np:=Zab Np1 hw9
  have hR2:Rw Zbv 117 wx (fun k=>k=gs) (.slice (some ⟨gs,0,none⟩) x.cells.length x.cells.length) (List.replicate x.cells.length []):=Ztc (.slice none 0 0) x.cells.length [] rfl (by decide) Zvd (by omega) (by rw [show x.cells.length*Zbv.length=x.cells.length from Nat.mul_one _];exact s2)
  have HN:P8 w9 (fun k=>w.heap.size≤k∧k≠w.heap.size∧k≠w.heap.size+1∧k≠g) (fun k=>if k=gs then 2 else 0) (pOwn kPln x [.int .i64 x.nodes,.int .i64 x.secret,.int .i64 x.fuel,.slice P1 M1 q1,.slice P2 M2 q2,.slice P3 M3 q3,.slice P4 M4 q4]) (pRw kNod 98 (.slice none 0 0) ([])) (pRw Zbv 117 (.slice (some ⟨gs,0,none⟩) x.cells.length x.cells.length) (List.replicate x.cells.length ([]:List Sight))) Zbw Zbw Zbw Zbw Zbw:=⟨Zbx (Zdf r2 (fun k hk1 hl=>hk.block k hl (fun e=>by subst e;exact k3 hk1))) (fun k hk1=>⟨⟨by have:=h4 k hk1;omega,by have:=h4 k hk1;omega,by have:=h4 k hk1;omega,fun e=>by subst e;exact k3 hk1⟩,if_neg (fun e=>by subst e;exact s3 hk1)⟩),Zbq _ _ _ _,Zae (Zah hR2 (fun k hk1 hl=>hk.block k hl (fun e=>by omega))) (fun k hk1=>⟨⟨by omega,by omega,by omega,fun e=>by omega⟩,if_pos hk1⟩),trivial,trivial,trivial,trivial,trivial,Zxn _ _ _,pcRw _ _ _ _,pcRw _ _ _ _,Zet,Zet,Zet,Zet,Zet⟩
  clear h3 h4 r1 r2 r3 s1 s2 s3 k2 k3 k4 k5 z11 z16 hk hw9 hWd hb1 hR2 Np1 Nr1
  generalize Value.slice (some ⟨gs,0,none⟩) x.cells.length x.cells.length=u2 at *
  have p0:=cellsP1 Np
  go_wp2
  clear p0
  go_loopw [19] (fun i wr=>∃ (k:Nat) (u1:Value) (f:Nat→Nat),k≤n∧i=.int .i64 k∧wr.heap[g]? = some (.cells #[.int .i64 x.nodes,.int .i64 x.secret,.int .i64 x.fuel,.slice P1 M1 q1,.slice P2 M2 q2,.slice P3 M3 q3,.slice P4 M4 q4,u1,.int .i64 0,.slice none 0 0,u2] 56 (0,0))∧wr.heap[w.heap.size+1]? = some (.cells #[.int .i64 0,.int .i64 0,.int .i64 0,.slice none 0 0,.slice none 0 0,.slice none 0 0,.slice none 0 0,.slice none 0 0,.int .i64 0,.slice none 0 0,.slice none 0 0] 56 (0,0))∧wr.heap[w.heap.size]? = some (.cells #[.int .i64 x.nodes,.int .i64 x.secret,.int .i64 x.fuel,.slice B1 x.cells.length d1,.slice B2 x.ways.length d2,.slice B3 x.slots.length d3,.slice B4 x.turns.length d4] 33 (0,0))∧P8 wr (fun k=>w.heap.size≤k∧k≠w.heap.size∧k≠w.heap.size+1∧k≠g) f (pOwn kPln x [.int .i64 x.nodes,.int .i64 x.secret,.int .i64 x.fuel,.slice P1 M1 q1,.slice P2 M2 q2,.slice P3 M3 q3,.slice P4 M4 q4]) (pRw kNod 98 (u1) (List.replicate k (Zbm x 1 true))) (pRw Zbv 117 (u2) (List.replicate x.cells.length ([]:List Sight))) Zbw Zbw Zbw Zbw Zbw∧Below w.heap.size w wr) (fun i _=>n-(intOf i).toNat)
  case atStart=>exact ⟨0,_,_,Nat.zero_le _,rfl,Ng,Nr,Np,HN,HB⟩
  case round =>
   clear Ng Nr Np HN HB
   obtain ⟨k,u1,f,hk,rfl,Ng,Nr,Np,HN,HB⟩:=hrel
   have hgl:=Zao Ng
   have hd9:=hltn k
   by_cases hlt:k<n
   ·rw [decide_eq_true hlt] at hd9
    have hPa:Zio wr g _:=Zqv (ps:=[.int .i64 x.nodes,.int .i64 x.secret,.int .i64 x.fuel,.slice P1 M1 q1,.slice P2 M2 q2,.slice P3 M3 q3,.slice P4 M4 q4]) (rest:=[u1,.int .i64 0,.slice none 0 0,u2]) Ng
    have hPr:=Zbh HN.r0
    have qG:=Zim x _ wr g hPr hPa 0 (by have:=hxx.hn;omega) (by have:=hxx.hn;omega) hdep hcel hway
    go_upto_region 7 with (fail)
    go_upto_region 8 with (go_at_call 68;with_reducible refine qG.mono ?_;rintro e w3 ⟨⟨cs1,rfl,hO1⟩,hb8⟩;have hO9:=hO1;obtain ⟨u1,u2,u3,u4,u5,u6,u7,fn9,rfl,h1,h2,h3,h4,h5,h6,h7⟩:=Zgc hO1;obtain ⟨E1,L1,g1,rfl⟩:=Zba h1;obtain ⟨E2,L2,g2,rfl⟩:=Zba h2;obtain ⟨E3,L3,g3,rfl⟩:=Zba h3;obtain ⟨E4,L4,g4,rfl⟩:=Zba h4;obtain ⟨E5,L5,g5,rfl⟩:=Zba h5;obtain ⟨E6,L6,g6,rfl⟩:=Zba h6;obtain ⟨E7,L7,g7,rfl⟩:=Zba h7)
    have hs8:=hb8.size
    change Code.wp _ _ _ _ (w3.alloc (.cells #[.bool false,.int .i64 0,.int .i64 0,.slice E1 L1 g1,.slice E2 L2 g2,.slice E3 L3 g3,.slice E4 L4 g4,.slice E5 L5 g5,.slice E6 L6 g6,.slice E7 L7 g7] 98))
    have hal:Below w3.heap.size w3 (w3.alloc (.cells #[.bool false,.int .i64 0,.int .i64 0,.slice E1 L1 g1,.slice E2 L2 g2,.slice E3 L3 g3,.slice E4 L4 g4,.slice E5 L5 g5,.slice E6 L6 g6,.slice E7 L7 g7] 98)):=(brf_).alloc nlr_ _
    have Nn:=Zas w3 (.cells #[.bool false,.int .i64 0,.int .i64 0,.slice E1 L1 g1,.slice E2 L2 g2,.slice E3 L3 g3,.slice E4 L4 g4,.slice E5 L5 g5,.slice E6 L6 g6,.slice E7 L7 g7] 98)
    have hb4:=hb8.trans (hal.mono hb8.size)
    have hO4:=Zbh (Zbj hO9 hal)
    generalize w3.alloc (.cells #[.bool false,.int .i64 0,.int .i64 0,.slice E1 L1 g1,.slice E2 L2 g2,.slice E3 L3 g3,.slice E4 L4 g4,.slice E5 L5 g5,.slice E6 L6 g6,.slice E7 L7 g7] 98)=W4 at *
    generalize hgn:w3.heap.size=gn at *
    have hnl:=Zao Nn
    have Ng4:=Zab Ng hb4
    have HO4:=Zcj HN.r0
    have hprd:∀ {w1:World},Kep (fun q=>q=gn∨W4.heap.size≤q) W4 w1→allK w1 x kPln [.int .i64 x.nodes,.int .i64 x.secret,.int .i64 x.fuel,.slice P1 M1 q1,.slice P2 M2 q2,.slice P3 M3 q3,.slice P4 M4 q4]∧Zio w1 g [.int .i64 x.nodes,.int .i64 x.secret,.int .i64 x.fuel,.slice P1 M1 q1,.slice P2 M2 q2,.slice P3 M3 q3,.slice P4 M4 q4]:=by
     intro w1 hkk
     refine ⟨Zbh (Zdf (Zdf HO4 (fun k hk1 hl=>hb4.block k hl)) (fun k hk1 hl=>hkk.block k hl (fun e=>by omega))), ?_⟩
     exact Zqv (rest:=[u1,.int .i64 0,.slice none 0 0,u2]) ((hkk.block g (Zao Ng4) (fun e=>by omega)).trans Ng4)
    have qI:=Zpe x n hxx _ W4 g (hprd (Kep.refl _ _)).1 (hprd (Kep.refl _ _)).2 gn _ Nn hO4 (by omega) k hlt (fun _ _ _=>trivial) hprd
    go_upto_region 9 with (go_at_call 69;with_reducible refine qI.mono ?_;rintro e w5 ⟨⟨rfl,cs5,N5,hO5⟩,hk5⟩)
    have hs5:=hk5.size
    have hb5:Below wr.heap.size wr w5:=hb4.trans ⟨hk5.os,hk5.tape,hk5.output,hk5.size,fun k hk1=>hk5.block k (by have:=hb4.size;omega) (fun e=>by omega)⟩
    have hO6:=hO5
    obtain ⟨X1,X2,X3,X4,X5,X6,X7,f5,rfl,j1,j2,j3,j4,j5,j6,j7⟩:=Zgc hO5
    obtain ⟨H1,I1,J1,rfl⟩:=Zba j1
    obtain ⟨H2,I2,J2,rfl⟩:=Zba j2
    obtain ⟨H3,I3,J3,rfl⟩:=Zba j3
    obtain ⟨H4,I4,J4,rfl⟩:=Zba j4
    obtain ⟨H5,I5,J5,rfl⟩:=Zba j5
    obtain ⟨H6,I6,J6,rfl⟩:=Zba j6
    obtain ⟨H7,I7,J7,rfl⟩:=Zba j7
    have Ng5:=Zab Ng hb5
    have Nr5:=Zab Nr hb5
    have Np5:=Zab Np hb5
    have HB5:=HB.trans (hb5.mono HB.size)
    have hp:=Zcj hO6
    have HN5:=HN.skipf (w1:=w5) (T:=fun k=>w.heap.size≤k∧k≠w.heap.size∧k≠w.heap.size+1∧k≠g) (g:=lab wr.heap.size f 1) (fun k _ hl=>hb5.block k hl) (fun _ hk _=>hk) (fun k _ hl=>Zfq hl)
    have hob:=fun q (e:u1.ownBlock=some q)=>((Zca HN.r1) q e)
    have HO:Rw kNod 98 w5 (fun k=>((fun k=>w.heap.size≤k∧k≠w.heap.size∧k≠w.heap.size+1∧k≠g) k∧((k<w5.heap.size∧lab wr.heap.size f 1 k=1)∨w5.heap.size≤k))∧¬(W4.heap.size≤k∧k<w5.heap.size)) u1 (List.replicate k (Zbm x 1 true)):=Zae (Zaj (Zaf HN.r1) hb5) (fun k hk1=>⟨⟨hk1.1.1,Or.inl ⟨by have:=hb5.size;omega,by rw [Zfq hk1.2];exact hk1.1.2⟩⟩,by have:=hb4.size;omega⟩)
    have hs4:=hb4.size
    obtain ⟨-,-,-,-,-,-,-,g7⟩:=cellsP8 Ng5
    obtain ⟨n0_,n1_,n2_,n3_,n4_,n5_,n6_,n7_,n8_,n9_⟩:=cellsP10 N5
    clear qI qG hprd hPa hPr hO4 hO1 hO9 HO4 Nn hal hb8 hb4 Ng4 hk5 hO5 h1 h2 h3 h4 h5 h6 h7 j1 j2 j3 j4 j5 j6 j7
    go_wp2_with ((with_reducible refine Zfo (b:=.append) (xs:=#[.tmp 28,.tmp 30]) rfl ?_);at_builtin;(refine Zdg kNod (w0:=w) rfl (.tmp 28) (.tmp 30) 53 98 _ _ rfl Tryz.underlying53 iNod rfl (by decide) (by omega) (u1) (List.replicate k (Zbm x 1 true)) (Zbm x 1 true) [.bool true,.int .i64 1,.int .i64 0,.slice H1 I1 J1,.slice H2 I2 J2,.slice H3 I3 J3,.slice H4 I4 J4,.slice H5 I5 J5,.slice H6 I6 J6,.slice H7 I7 J7] (fun k=>(fun k=>w.heap.size≤k∧k≠w.heap.size∧k≠w.heap.size+1∧k≠g) k∧((k<w5.heap.size∧lab wr.heap.size f 1 k=1)∨w5.heap.size≤k)) (fun k=>W4.heap.size≤k∧k<w5.heap.size) ?aA ?aB ?aP HO ?aT ?aS ?aF HB5 ?aL ?_);(case aA=>rfl);(case aB=>rfl);(case aP=>exact hp);(case aT=>exact fun k hk=>⟨by (try dsimp only);omega,Or.inl ⟨hk.2,Zta (by omega)⟩⟩);(case aS=>exact fun k hk=>hk.1.1);(case aF=>exact fun k hk=>⟨by (try dsimp only);omega,Or.inr hk⟩);(case aL=>simp;omega);intro v2_ w6 hR4 HB3 hgr hat;obtain ⟨B,L9,d,rfl⟩:=Zba hR4;have Ng3:=Zch Ng5 hgr (fun e=>by have:=(hob _ e.symm).1.1;(try dsimp only at this);omega);have Nr3:=Zch Nr5 hgr (fun e=>by have:=(hob _ e.symm).1.1;(try dsimp only at this);omega);have Np3:=Zch Np5 hgr (fun e=>by have:=(hob _ e.symm).1.1;(try dsimp only at this);omega);obtain ⟨-,-,-,-,-,-,-,e7⟩:=cellsP8 Ng3;have f7:=Zad Ng3 7)
    have HN4:=(HN5.app1 brf_ hgr (fun q e=>by rw [Zfq (hob q e).2];exact (hob q e).1.2) (pcRw _ _ _ _) hR4).step (w1:=w6.setCell ⟨g,7,none⟩ (.slice B L9 d)) (fun b_ hk _=>Below.heap_setCell w6 ⟨g,7,none⟩ (.slice B L9 d) b_ (by (try dsimp only at hk ⊢);omega))
    rw [← List.replicate_succ'] at HN4
    refine ⟨⟨k+1,_,_,by omega,rfl,Zau Ng3 7 (.slice B L9 d),Zav (p:=⟨g,7,none⟩) Nr3 (show w.heap.size+1≠g by omega) (.slice B L9 d),Zav (p:=⟨g,7,none⟩) Np3 (show w.heap.size≠g by omega) (.slice B L9 d),HN4,Zak (j:=7) (v:=.slice B L9 d) HB3 (show w.heap.size≤g by omega)⟩, ?_⟩
    simp [intOf]
    omega
   ·have e:n=k:=by omega
    subst e
    obtain ⟨E1,L1,g1,rfl⟩:=Zba HN.r1
    obtain ⟨E2,L2,g2,rfl⟩:=Zba HN.r2
    go_wp2_with (refine Zen 56 3 2 34 g (w.heap.size+1) #[.int .i64 x.nodes,.int .i64 x.secret,.int .i64 x.fuel,.slice P1 M1 q1,.slice P2 M2 q2,.slice P3 M3 q3,.slice P4 M4 q4,.slice E1 L1 g1,.int .i64 0,.slice none 0 0,.slice E2 L2 g2] #[.int .i64 0,.int .i64 0,.int .i64 0,.slice none 0 0,.slice none 0 0,.slice none 0 0,.slice none 0 0,.slice none 0 0,.int .i64 0,.slice none 0 0,.slice none 0 0] 56 56 _ ⟨rfl,rfl,rfl⟩ ⟨rfl,rfl,rfl⟩ rfl rfl (by decide) (show 34<35 by decide) Ng Nr Tryz.underlying56 rfl (by kernel_rfl) rfl (by simp [Value.oneCell']) ?_;intro w9 N9 hk9)
    refine bodyPost_ret (results_cell_row rfl _ _ (w.heap.size+1) 56 #[.int .i64 x.nodes,.int .i64 x.secret,.int .i64 x.fuel,.slice P1 M1 q1,.slice P2 M2 q2,.slice P3 M3 q3,.slice P4 M4 q4,.slice E1 L1 g1,.int .i64 0,.slice none 0 0,.slice E2 L2 g2] (0,0) _ rfl N9 Tryz.underlying56 rfl (by kernel_rfl)) rfl ?_
    have HF:=HN.step (w1:=w9) (fun b_ h hl=>hk9.block b_ hl (fun e=>h.2.2.1 e))
    obtain ⟨v1,v2,v3,v4,fp,ep,i1,i2,i3,i4⟩:=Zho HF.r0
    simp only [List.cons.injEq,true_and,and_true] at ep
    obtain ⟨rfl,rfl,rfl,rfl⟩:=ep
    have hxn:Zee x=⟨x,List.replicate n (Zbm x 1 true),0,[],List.replicate x.cells.length []⟩:=by rw [Zee,hxx.hn];rfl
    rw [hxn]
    refine ⟨⟨_,rfl,Zvy (fun k=>if f k=0 then fp k else if f k=1 then 7 else 10) (Zae i1 (fun k hk=>⟨hk.1.1.1,by simp [hk.1.2,hk.2]⟩)) (Zae i2 (fun k hk=>⟨hk.1.1.1,by simp [hk.1.2,hk.2]⟩)) (Zae i3 (fun k hk=>⟨hk.1.1.1,by simp [hk.1.2,hk.2]⟩)) (Zae i4 (fun k hk=>⟨hk.1.1.1,by simp [hk.1.2,hk.2]⟩)) (Zae HF.r1 (fun k hk=>⟨hk.1.1,by simp [hk.2]⟩)) (Zbq _ _ _ _) (Zae HF.r2 (fun k hk=>⟨hk.1.1,by simp [hk.2]⟩))⟩,HB.trans ⟨hk9.os,hk9.tape,hk9.output,hk9.size,fun b_ hb=>hk9.block b_ (by have:=HB.size;omega) (fun e=>by omega)⟩⟩
theorem Zrh (x:CelSt) (A1 A2:Option Addr) (c1 c2:Nat) (w:World) (r1:Rd kInt w A1 x.regs) (r2:Rd kInt w A2 x.mem) (l1:x.regs.length≤1048576) (l2:x.mem.length≤1048576) :
  Calls Tryz.prog 227 #[.agg #[.int .i64 x.pc,.slice A1 x.regs.length c1,.slice A2 x.mem.length c2,.int .i64 x.halt]] w fun e w'=>(∃ (u1 u2:Value) (f:Nat→Nat),e=.returned (.agg #[.int .i64 x.pc,u1,u2,.int .i64 x.halt])∧Rw kInt 3 w' (fun k=>w.heap.size≤k∧f k=1) u1 x.regs∧Rw kInt 3 w' (fun k=>w.heap.size≤k∧f k=2) u2 x.mem)∧Below w.heap.size w w':=by
 obtain ⟨W,eW,hb0,Np,Nr⟩:=new2 w (.cells #[.int .i64 x.pc,.slice A1 x.regs.length c1,.slice A2 x.mem.length c2,.int .i64 x.halt] 100) (.cells #[.int .i64 0,.slice none 0 0,.slice none 0 0,.int .i64 0] 100)
 go_enter Tryz.func227,Tryz.ntmps227
 go_upto_region 1 with (fail)
 refine wp_at eW ?_
 clear eW
 obtain ⟨-,a1⟩:=cellsP2 Np
 go_upto_region 2 with (go_at_call 112;with_reducible refine (Zea A1 c1 x.regs W (Zac r1 hb0) l1).mono ?_;rintro e w1 ⟨⟨v1,rfl,h1⟩,hb1⟩;obtain ⟨E1,L1,g1,rfl⟩:=Zba h1;have Np1:=Zab Np hb1;have e1:w1.cell? ⟨w.heap.size,1,none⟩=some (.slice A1 x.regs.length c1):=Zag Np1 rfl;have f1:=Zad Np1 1)
 have hbA:=hb0.trans (hb1.mono hb0.size)
 have hW0:=hb0.size
 have hW1:w.heap.size+1<W.heap.size:=Zao Nr
 have NpA:(w1.setCell ⟨w.heap.size,1,none⟩ (.slice E1 L1 g1)).heap[w.heap.size]? = some (.cells #[.int .i64 x.pc,.slice E1 L1 g1,.slice A2 x.mem.length c2,.int .i64 x.halt] 100 (0,0)):=Zau Np1 1 _
 have NrA:=Zav (p:=⟨w.heap.size,1,none⟩) (Zab Nr hb1) (show w.heap.size+1≠w.heap.size by omega) (.slice E1 L1 g1)
 have HBA:=Zak (j:=1) (v:=.slice E1 L1 g1) hbA (Nat.le_refl w.heap.size)
 have hA1:=Zah h1 (w1:=w1.setCell ⟨w.heap.size,1,none⟩ (.slice E1 L1 g1)) (fun k hk _=>Below.heap_setCell w1 ⟨w.heap.size,1,none⟩ _ k (by (try dsimp only at hk ⊢);omega))
 clear Np Nr a1 Np1 e1 f1 h1
 have hWA:W.heap.size≤(w1.setCell ⟨w.heap.size,1,none⟩ (.slice E1 L1 g1)).heap.size:=by have:=hb1.size;simpa [World.setCell] using this
 generalize w1.setCell ⟨w.heap.size,1,none⟩ (.slice E1 L1 g1)=WA at *
 obtain ⟨-,-,a2⟩:=cellsP3 NpA
 go_upto_region 3 with (go_at_call 112;with_reducible refine (Zea A2 c2 x.mem WA (Zac r2 HBA) l2).mono ?_;rintro e w2 ⟨⟨v2,rfl,h2⟩,hb2⟩;obtain ⟨E2,L2,g2,rfl⟩:=Zba h2;have Np2:=Zab NpA hb2;have e2:w2.cell? ⟨w.heap.size,2,none⟩=some (.slice A2 x.mem.length c2):=Zag Np2 rfl;have f2:=Zad Np2 2)
 have hbB:=HBA.trans (hb2.mono HBA.size)
 have NpB:(w2.setCell ⟨w.heap.size,2,none⟩ (.slice E2 L2 g2)).heap[w.heap.size]? = some (.cells #[.int .i64 x.pc,.slice E1 L1 g1,.slice E2 L2 g2,.int .i64 x.halt] 100 (0,0)):=Zau Np2 2 _
 have NrB:=Zav (p:=⟨w.heap.size,2,none⟩) (Zab NrA hb2) (show w.heap.size+1≠w.heap.size by omega) (.slice E2 L2 g2)
 have HBB:=Zak (j:=2) (v:=.slice E2 L2 g2) hbB (Nat.le_refl w.heap.size)
 have hB1:=Zah (Zaj (Zaf hA1) hb2) (w1:=w2.setCell ⟨w.heap.size,2,none⟩ (.slice E2 L2 g2)) (fun k hk _=>Below.heap_setCell w2 ⟨w.heap.size,2,none⟩ _ k (by (try dsimp only at hk ⊢);omega))
 have hB2:=Zah h2 (w1:=w2.setCell ⟨w.heap.size,2,none⟩ (.slice E2 L2 g2)) (fun k hk _=>Below.heap_setCell w2 ⟨w.heap.size,2,none⟩ _ k (by (try dsimp only at hk ⊢);omega))
 go_wp2_with (refine Zen 100 1 2 11 w.heap.size (w.heap.size+1) #[.int .i64 x.pc,.slice E1 L1 g1,.slice E2 L2 g2,.int .i64 x.halt] #[.int .i64 0,.slice none 0 0,.slice none 0 0,.int .i64 0] 100 100 _ ⟨rfl,rfl,rfl⟩ ⟨rfl,rfl,rfl⟩ rfl rfl (by decide) (show 11<12 by decide) NpB NrB Tryz.underlying100 rfl (by kernel_rfl) rfl (by simp [Value.oneCell']) ?_;intro w9 N9 hk9)
 refine bodyPost_ret (results_cell_row rfl _ _ (w.heap.size+1) 100 #[.int .i64 x.pc,.slice E1 L1 g1,.slice E2 L2 g2,.int .i64 x.halt] (0,0) _ rfl N9 Tryz.underlying100 rfl (by kernel_rfl)) rfl ?_
 refine ⟨⟨_,_,fun k=>if k<WA.heap.size then 1 else 2,rfl,Zae (Zah hB1 (fun k hk hl=>hk9.block k hl (fun e=>by (try dsimp only at hk e);omega))) (fun k hk=>⟨by (try dsimp only at hk);omega,if_pos hk.2⟩),Zae (Zah hB2 (fun k hk hl=>hk9.block k hl (fun e=>by (try dsimp only at hk e);omega))) (fun k hk=>⟨by (try dsimp only at hk);omega,if_neg (by (try dsimp only at hk);omega)⟩)⟩,HBB.trans ⟨hk9.os,hk9.tape,hk9.output,hk9.size,fun b_ hb=>hk9.block b_ (by have:=HBB.size;omega) (fun e=>by omega)⟩⟩
theorem Zri (x:CelSt) (A1 A2:Option Addr) (c1 c2:Nat) (w:World) (r1:Rd kInt w A1 x.regs) (r2:Rd kInt w A2 x.mem) (l1:x.regs.length≤1048576) (l2:x.mem.length≤1048576) :
  Calls Tryz.prog 176 #[.agg #[.int .i64 x.pc,.slice A1 x.regs.length c1,.slice A2 x.mem.length c2,.int .i64 x.halt]] w fun e w'=>(∃ (u1 u2:Value) (f:Nat→Nat),e=.returned (.agg #[.int .i64 x.pc,u1,u2,.int .i64 x.halt])∧Rw kInt 3 w' (fun k=>w.heap.size≤k∧f k=1) u1 x.regs∧Rw kInt 3 w' (fun k=>w.heap.size≤k∧f k=2) u2 x.mem)∧Below w.heap.size w w':=by
 obtain ⟨W,eW,hb0,Np,Nr⟩:=new2 w (.cells #[.int .i64 x.pc,.slice A1 x.regs.length c1,.slice A2 x.mem.length c2,.int .i64 x.halt] 100) (.cells #[.int .i64 0,.slice none 0 0,.slice none 0 0,.int .i64 0] 100)
 go_enter Tryz.func176,Tryz.ntmps176
 go_upto_region 1 with (fail)
 refine wp_at eW ?_
 clear eW
 obtain ⟨-,a1⟩:=cellsP2 Np
 have a1l:(W.alloc (.cells #[] 3)).cell? ⟨w.heap.size,1,none⟩=some (.slice A1 x.regs.length c1):=Zaa ((Below.refl W.heap.size W).alloc nlr_ _) a1
 go_upto_region 2 with ((with_reducible refine Zfo (b:=.append) (xs:=#[.tmp 3,.tmp 5]) rfl ?_);at_builtin;(refine Zdi kInt fInt (w0:=W) rfl (.tmp 3) (.tmp 5) 90 3 _ _ rfl Tryz.underlying90 iInt rfl (by decide) (by omega) (.slice (some ⟨W.heap.size,0,none⟩) 0 0) [] x.regs A1 c1 (fun k=>W.heap.size≤k) rfl rfl (Zfl kInt 3 W (fun k=>W.heap.size≤k) nlr_) (Zac r1 (hb0.trans (((Below.refl W.heap.size W).alloc nlr_ (.cells #[] 3)).mono hb0.size))) ?aS ?aF ?aB ?aL ?_);(case aS=>exact fun _ h=>h);(case aF=>exact fun b h=>Nat.le_trans (((Below.refl W.heap.size W).alloc nlr_ (.cells #[] 3))).size h);(case aB=>exact ((Below.refl W.heap.size W).alloc nlr_ (.cells #[] 3)));(case aL=>simp <;> omega);intro v1 w1 h1_ hbx1 hgx1 hax1;have hb1:=hbx1;have h1:Rw kInt 3 w1 (fun k=>W.heap.size≤k) v1 x.regs:=(by simpa only [List.nil_append] using h1_);obtain ⟨E1,L1,g1,rfl⟩:=Zba h1;have Np1:=Zab Np hb1;obtain ⟨-,e1⟩:=cellsP2 Np1;have f1:=Zad Np1 1)
 have hbA:=hb0.trans (hb1.mono hb0.size)
 have hW0:=hb0.size
 have hW1:w.heap.size+1<W.heap.size:=Zao Nr
 have NpA:(w1.setCell ⟨w.heap.size,1,none⟩ (.slice E1 L1 g1)).heap[w.heap.size]? = some (.cells #[.int .i64 x.pc,.slice E1 L1 g1,.slice A2 x.mem.length c2,.int .i64 x.halt] 100 (0,0)):=Zau Np1 1 _
 have NrA:=Zav (p:=⟨w.heap.size,1,none⟩) (Zab Nr hb1) (show w.heap.size+1≠w.heap.size by omega) (.slice E1 L1 g1)
 have HBA:=Zak (j:=1) (v:=.slice E1 L1 g1) hbA (Nat.le_refl w.heap.size)
 have hA1:=Zah h1 (w1:=w1.setCell ⟨w.heap.size,1,none⟩ (.slice E1 L1 g1)) (fun k hk _=>Below.heap_setCell w1 ⟨w.heap.size,1,none⟩ _ k (by (try dsimp only at hk ⊢);omega))
 clear Np Nr a1 a1l Np1 e1 f1 h1 h1_ hbx1 hgx1 hax1
 have hWA:W.heap.size≤(w1.setCell ⟨w.heap.size,1,none⟩ (.slice E1 L1 g1)).heap.size:=by have:=hb1.size;simpa [World.setCell] using this
 generalize w1.setCell ⟨w.heap.size,1,none⟩ (.slice E1 L1 g1)=WA at *
 obtain ⟨-,-,a2⟩:=cellsP3 NpA
 have a2l:(WA.alloc (.cells #[] 3)).cell? ⟨w.heap.size,2,none⟩=some (.slice A2 x.mem.length c2):=Zaa ((Below.refl WA.heap.size WA).alloc nlr_ _) a2
 go_upto_region 3 with ((with_reducible refine Zfo (b:=.append) (xs:=#[.tmp 8,.tmp 10]) rfl ?_);at_builtin;(refine Zdi kInt fInt (w0:=WA) rfl (.tmp 8) (.tmp 10) 90 3 _ _ rfl Tryz.underlying90 iInt rfl (by decide) (by omega) (.slice (some ⟨WA.heap.size,0,none⟩) 0 0) [] x.mem A2 c2 (fun k=>WA.heap.size≤k) rfl rfl (Zfl kInt 3 WA (fun k=>WA.heap.size≤k) nlr_) (Zac r2 (HBA.trans (((Below.refl WA.heap.size WA).alloc nlr_ (.cells #[] 3)).mono HBA.size))) ?aS ?aF ?aB ?aL ?_);(case aS=>exact fun _ h=>h);(case aF=>exact fun b h=>Nat.le_trans (((Below.refl WA.heap.size WA).alloc nlr_ (.cells #[] 3))).size h);(case aB=>exact ((Below.refl WA.heap.size WA).alloc nlr_ (.cells #[] 3)));(case aL=>simp <;> omega);intro v2 w2 h2_ hbx2 hgx2 hax2;have hb2:=hbx2;have h2:Rw kInt 3 w2 (fun k=>WA.heap.size≤k) v2 x.mem:=(by simpa only [List.nil_append] using h2_);obtain ⟨E2,L2,g2,rfl⟩:=Zba h2;have Np2:=Zab NpA hb2;obtain ⟨-,-,e2⟩:=cellsP3 Np2;have f2:=Zad Np2 2)
 have hbB:=HBA.trans (hb2.mono HBA.size)
 have NpB:(w2.setCell ⟨w.heap.size,2,none⟩ (.slice E2 L2 g2)).heap[w.heap.size]? = some (.cells #[.int .i64 x.pc,.slice E1 L1 g1,.slice E2 L2 g2,.int .i64 x.halt] 100 (0,0)):=Zau Np2 2 _
 have NrB:=Zav (p:=⟨w.heap.size,2,none⟩) (Zab NrA hb2) (show w.heap.size+1≠w.heap.size by omega) (.slice E2 L2 g2)
 have HBB:=Zak (j:=2) (v:=.slice E2 L2 g2) hbB (Nat.le_refl w.heap.size)
 have hB1:=Zah (Zaj (Zaf hA1) hb2) (w1:=w2.setCell ⟨w.heap.size,2,none⟩ (.slice E2 L2 g2)) (fun k hk _=>Below.heap_setCell w2 ⟨w.heap.size,2,none⟩ _ k (by (try dsimp only at hk ⊢);omega))
 have hB2:=Zah h2 (w1:=w2.setCell ⟨w.heap.size,2,none⟩ (.slice E2 L2 g2)) (fun k hk _=>Below.heap_setCell w2 ⟨w.heap.size,2,none⟩ _ k (by (try dsimp only at hk ⊢);omega))
 go_wp2_with (refine Zen 100 1 2 13 w.heap.size (w.heap.size+1) #[.int .i64 x.pc,.slice E1 L1 g1,.slice E2 L2 g2,.int .i64 x.halt] #[.int .i64 0,.slice none 0 0,.slice none 0 0,.int .i64 0] 100 100 _ ⟨rfl,rfl,rfl⟩ ⟨rfl,rfl,rfl⟩ rfl rfl (by decide) (show 13<14 by decide) NpB NrB Tryz.underlying100 rfl (by kernel_rfl) rfl (by simp [Value.oneCell']) ?_;intro w9 N9 hk9)
 refine bodyPost_ret (results_cell_row rfl _ _ (w.heap.size+1) 100 #[.int .i64 x.pc,.slice E1 L1 g1,.slice E2 L2 g2,.int .i64 x.halt] (0,0) _ rfl N9 Tryz.underlying100 rfl (by kernel_rfl)) rfl ?_
 refine ⟨⟨_,_,fun k=>if k<WA.heap.size then 1 else 2,rfl,Zae (Zah hB1 (fun k hk hl=>hk9.block k hl (fun e=>by (try dsimp only at hk e);omega))) (fun k hk=>⟨by (try dsimp only at hk);omega,if_pos hk.2⟩),Zae (Zah hB2 (fun k hk hl=>hk9.block k hl (fun e=>by (try dsimp only at hk e);omega))) (fun k hk=>⟨by (try dsimp only at hk);omega,if_neg (by (try dsimp only at hk);omega)⟩)⟩,HBB.trans ⟨hk9.os,hk9.tape,hk9.output,hk9.size,fun b_ hb=>hk9.block b_ (by have:=HBB.size;omega) (fun e=>by omega)⟩⟩
theorem Zph (x:CelSt) (cs:List Value) (w:World) (hC:allK w x Zby cs) (l1:x.regs.length≤1048576) (l2:x.mem.length≤1048576) (l3:x.inn.length≤1048576) :
  Calls Tryz.prog 192 #[.agg cs.toArray] w fun e w'=>(∃ cs:List Value,e=.returned (.agg cs.toArray)∧Own Zby w' (fun k=>w.heap.size≤k) x cs)∧Below w.heap.size w w':=by
 obtain ⟨A1,c1,A2,c2,A3,c3,rfl,-,r1,-,r2,-,r3⟩:=Zfp hC
 obtain ⟨W,eW,hb0,Np,Nr⟩:=new2 w (.cells #[.int .i64 x.pc,.slice A1 x.regs.length c1,.slice A2 x.mem.length c2,.int .i64 x.halt,.slice A3 x.inn.length c3] 103) (.cells #[.int .i64 0,.slice none 0 0,.slice none 0 0,.int .i64 0,.slice none 0 0] 103)
 go_enter Tryz.func192,Tryz.ntmps192
 go_upto_region 1 with (fail)
 refine wp_at eW ?_
 clear eW
 have hWr:w.heap.size+1<W.heap.size:=Zao Nr
 refine Zcf 8 none [7] (by kernel_rfl) rfl rfl ?_
 intro Wd hd hs
 have Np_d:=Zab Np hd
 have Nr_d:=Zab Nr hd
 have HBd:=hb0.trans (hd.mono hb0.size)
 refine head2g #[false,false,false,false,false,false,false,false] #[true,false,false,false,false,false,false,false] #[true,true,false,false,false,false,false,false] 0 1 3 4 1 100 103 0 0 w.heap.size (u:=.agg #[.int .i64 x.pc,.slice A1 x.regs.length c1,.slice A2 x.mem.length c2,.int .i64 x.halt]) ⟨rfl,rfl⟩ (by kernel_rfl) ⟨rfl,rfl,rfl⟩ ⟨rfl,rfl,rfl⟩ rfl (show 3<10 by decide) (fun w1=>by go_simp) (fun w1 hk=>by have N9:=(hk _ (Zao Np_d) (by simp)).trans Np_d;obtain ⟨y0,y1,y2,y3⟩:=cellsP4 N9;go_simp) (Zbc.refl _ _) (fun _ _ _ d _ h=>by cases d <;> exact h) ?_
 refine Zbb (by simp only [Act.put,pkA,pkB,pkC];rfl) ?_
 refine head2g #[true,true,false,false,false,false,false,false] #[true,true,false,true,false,false,false,false] #[true,true,false,true,true,false,false,false] 3 4 6 7 1 101 103 1 4 w.heap.size (u:=.slice A3 x.inn.length c3) ⟨rfl,rfl⟩ (by kernel_rfl) ⟨rfl,rfl,rfl⟩ ⟨rfl,rfl,rfl⟩ rfl (show 6<10 by decide) (fun w1=>by go_simp) (fun w1 hk=>by have N9:=(hk _ (Zao Np_d) (by simp)).trans Np_d;obtain ⟨-,-,-,-,y4⟩:=cellsP5 N9;go_simp) (Zbc.refl _ _) (fun _ _ _ d _ h=>by cases d <;> exact h) ?_
 refine Zbb (by simp only [Act.put,pkA,pkB,pkC];rfl) ?_
 refine Zfd #[true,true,false,true,true,false,false,false] #[true,true,true,true,true,false,false,false] 2 5 (fun v w1=>∃ (u1 u2:Value) (f:Nat→Nat),v=.agg #[.int .i64 x.pc,u1,u2,.int .i64 x.halt]∧Rw kInt 3 w1 (fun k=>Wd.heap.size≤k∧f k=1) u1 x.regs∧Rw kInt 3 w1 (fun k=>Wd.heap.size≤k∧f k=2) u2 x.mem) rfl (by decide) (by kernel_rfl) rfl rfl rfl Tryz.func227 (by kernel_rfl) rfl #[.agg #[.int .i64 x.pc,.slice A1 x.regs.length c1,.slice A2 x.mem.length c2,.int .i64 x.halt]] (by (try simp only [List.map_toArray,List.map_cons,List.map_nil]);first | done | rfl) ((Zrh x A1 A2 c1 c2 Wd (Zac r1 HBd) (Zac r2 HBd) l1 l2).mono (fun e w9 h=>⟨match h.1 with | ⟨u1,u2,f,he,h1,h2⟩=>⟨_,he,u1,u2,f,rfl,h1,h2⟩,h.2⟩)) (Zbc.refl _ _) nlr_ ?_
 rintro v w1 ⟨u1,u2,f,rfl,h1,h2⟩ hb1 hk1
 refine Zbb (by simp only [Act.put,pkA,pkB,pkC];rfl) ?_
 obtain ⟨E1,L1,g1,rfl⟩:=Zba h1
 obtain ⟨E2,L2,g2,rfl⟩:=Zba h2
 have HB1:=HBd.trans (hb1.mono HBd.size)
 refine Zfd #[true,true,true,true,true,false,false,false] #[true,true,true,true,true,true,false,false] 5 8 (fun v w2=>Rw Zdh 5 w2 (fun k=>w1.heap.size≤k) v x.inn) rfl (by decide) (by kernel_rfl) rfl rfl rfl Tryz.func153 (by kernel_rfl) rfl #[.slice A3 x.inn.length c3] (by (try simp only [List.map_toArray,List.map_cons,List.map_nil]);first | done | rfl) ((Zgm A3 c3 x.inn w1 (Zac r3 HB1) l3).mono (fun e w9 h=>⟨match h.1 with | ⟨v,he,h1⟩=>⟨v,he,h1⟩,h.2⟩)) hk1 hb1.size ?_
 rintro v w2 h3 hb2 hk2
 obtain ⟨E3,L3,g3,rfl⟩:=Zba h3
 refine Zbb (by simp only [Act.put,pkA,pkB,pkC];rfl) ?_
 refine Zap (i:=6) (N:=some 9) (v:=.agg #[.int .i64 x.pc,.slice E1 L1 g1,.slice E2 L2 g2,.int .i64 x.halt,.slice E3 L3 g3]) #[true,true,true,true,true,true,true,false] rfl rfl (by kernel_rfl) (fun _ _ _ h=>h) (Or.inl ⟨by rfl,fun w1=>by go_simp <;> rfl⟩) (by simp only [Act.put,pkA,pkB,pkC];rfl) ?_
 have hb12:=hb1.trans (hb2.mono hb1.size)
 have Nr2:=Zab Nr_d hb12
 refine Znl (i:=7) (N:=none) #[true,true,true,true,true,true,true,true] rfl rfl (by kernel_rfl) (by decide) (fun K hK=>?_)
 refine Zgx rfl rfl 103 (.tmp 2) (.tmp 9) rfl (w.heap.size+1) #[.int .i64 x.pc,.slice E1 L1 g1,.slice E2 L2 g2,.int .i64 x.halt,.slice E3 L3 g3] rfl rfl 103 #[.int .i64 0,.slice none 0 0,.slice none 0 0,.int .i64 0,.slice none 0 0] Nr2 (by kernel_rfl) rfl (by simp [Value.oneCell']) (fun w9 N9 hk9=>?_)
 refine hK.out _ _ ?_
 clear hK K
 refine Zgw (by kernel_rfl) ?_
 go_wp2
 refine bodyPost_ret (results_cell_row rfl _ _ (w.heap.size+1) 103 #[.int .i64 x.pc,.slice E1 L1 g1,.slice E2 L2 g2,.int .i64 x.halt,.slice E3 L3 g3] (0,0) _ rfl N9 Tryz.underlying103 rfl (by kernel_rfl)) rfl ?_
 have hsd:=hd.size
 have hs1:=hb1.size
 have HB2:=HB1.trans (hb2.mono HB1.size)
 refine ⟨⟨_,rfl,Zlw (fun k=>if k<w1.heap.size then f k else 4) (Zae (Zah (Zaj (Zaf h1) hb2) (fun k hk hl=>hk9.block k hl (fun e=>by (try dsimp only at hk e);omega))) (fun k hk=>⟨by (try dsimp only at hk);omega,(if_pos hk.2).trans hk.1.2⟩)) (Zae (Zah (Zaj (Zaf h2) hb2) (fun k hk hl=>hk9.block k hl (fun e=>by (try dsimp only at hk e);omega))) (fun k hk=>⟨by (try dsimp only at hk);omega,(if_pos hk.2).trans hk.1.2⟩)) (Zae (Zah h3 (fun k hk hl=>hk9.block k hl (fun e=>by (try dsimp only at hk e);omega))) (fun k hk=>⟨by (try dsimp only at hk);omega,if_neg (by (try dsimp only at hk);omega)⟩))⟩,HB2.trans ⟨hk9.os,hk9.tape,hk9.output,hk9.size,fun b_ hb=>hk9.block b_ (by have:=HB2.size;omega) (fun e=>by omega)⟩⟩
theorem Zpi (x:CelSt) (cs:List Value) (w:World) (hC:allK w x Zby cs) (l1:x.regs.length≤1048576) (l2:x.mem.length≤1048576) (l3:x.inn.length≤1048576) :
  Calls Tryz.prog 132 #[.agg cs.toArray] w fun e w'=>(∃ cs:List Value,e=.returned (.agg cs.toArray)∧Own Zby w' (fun k=>w.heap.size≤k) x cs)∧Below w.heap.size w w':=by
 obtain ⟨A1,c1,A2,c2,A3,c3,rfl,-,r1,-,r2,-,r3⟩:=Zfp hC
 obtain ⟨W,eW,hb0,Np,Nr⟩:=new2 w (.cells #[.int .i64 x.pc,.slice A1 x.regs.length c1,.slice A2 x.mem.length c2,.int .i64 x.halt,.slice A3 x.inn.length c3] 103) (.cells #[.int .i64 0,.slice none 0 0,.slice none 0 0,.int .i64 0,.slice none 0 0] 103)
 go_enter Tryz.func132,Tryz.ntmps132
 go_upto_region 1 with (fail)
 refine wp_at eW ?_
 clear eW
 have hWr:w.heap.size+1<W.heap.size:=Zao Nr
 refine Zcf 8 none [7] (by kernel_rfl) rfl rfl ?_
 intro Wd hd hs
 have Np_d:=Zab Np hd
 have Nr_d:=Zab Nr hd
 have HBd:=hb0.trans (hd.mono hb0.size)
 refine head2g #[false,false,false,false,false,false,false,false] #[true,false,false,false,false,false,false,false] #[true,true,false,false,false,false,false,false] 0 1 3 4 1 100 103 0 0 w.heap.size (u:=.agg #[.int .i64 x.pc,.slice A1 x.regs.length c1,.slice A2 x.mem.length c2,.int .i64 x.halt]) ⟨rfl,rfl⟩ (by kernel_rfl) ⟨rfl,rfl,rfl⟩ ⟨rfl,rfl,rfl⟩ rfl (show 3<10 by decide) (fun w1=>by go_simp) (fun w1 hk=>by have N9:=(hk _ (Zao Np_d) (by simp)).trans Np_d;obtain ⟨y0,y1,y2,y3⟩:=cellsP4 N9;go_simp) (Zbc.refl _ _) (fun _ _ _ d _ h=>by cases d <;> exact h) ?_
 refine Zbb (by simp only [Act.put,pkA,pkB,pkC];rfl) ?_
 refine head2g #[true,true,false,false,false,false,false,false] #[true,true,false,true,false,false,false,false] #[true,true,false,true,true,false,false,false] 3 4 6 7 1 101 103 1 4 w.heap.size (u:=.slice A3 x.inn.length c3) ⟨rfl,rfl⟩ (by kernel_rfl) ⟨rfl,rfl,rfl⟩ ⟨rfl,rfl,rfl⟩ rfl (show 6<10 by decide) (fun w1=>by go_simp) (fun w1 hk=>by have N9:=(hk _ (Zao Np_d) (by simp)).trans Np_d;obtain ⟨-,-,-,-,y4⟩:=cellsP5 N9;go_simp) (Zbc.refl _ _) (fun _ _ _ d _ h=>by cases d <;> exact h) ?_
 refine Zbb (by simp only [Act.put,pkA,pkB,pkC];rfl) ?_
 refine Zfd #[true,true,false,true,true,false,false,false] #[true,true,true,true,true,false,false,false] 2 5 (fun v w1=>∃ (u1 u2:Value) (f:Nat→Nat),v=.agg #[.int .i64 x.pc,u1,u2,.int .i64 x.halt]∧Rw kInt 3 w1 (fun k=>Wd.heap.size≤k∧f k=1) u1 x.regs∧Rw kInt 3 w1 (fun k=>Wd.heap.size≤k∧f k=2) u2 x.mem) rfl (by decide) (by kernel_rfl) rfl rfl rfl Tryz.func176 (by kernel_rfl) rfl #[.agg #[.int .i64 x.pc,.slice A1 x.regs.length c1,.slice A2 x.mem.length c2,.int .i64 x.halt]] (by (try simp only [List.map_toArray,List.map_cons,List.map_nil]);first | done | rfl) ((Zri x A1 A2 c1 c2 Wd (Zac r1 HBd) (Zac r2 HBd) l1 l2).mono (fun e w9 h=>⟨match h.1 with | ⟨u1,u2,f,he,h1,h2⟩=>⟨_,he,u1,u2,f,rfl,h1,h2⟩,h.2⟩)) (Zbc.refl _ _) nlr_ ?_
 rintro v w1 ⟨u1,u2,f,rfl,h1,h2⟩ hb1 hk1
 refine Zbb (by simp only [Act.put,pkA,pkB,pkC];rfl) ?_
 obtain ⟨E1,L1,g1,rfl⟩:=Zba h1
 obtain ⟨E2,L2,g2,rfl⟩:=Zba h2
 have HB1:=HBd.trans (hb1.mono HBd.size)
 refine Zfd #[true,true,true,true,true,false,false,false] #[true,true,true,true,true,true,false,false] 5 8 (fun v w2=>Rw Zdh 5 w2 (fun k=>w1.heap.size≤k) v x.inn) rfl (by decide) (by kernel_rfl) rfl rfl rfl Tryz.func98 (by kernel_rfl) rfl #[.slice A3 x.inn.length c3] (by (try simp only [List.map_toArray,List.map_cons,List.map_nil]);first | done | rfl) ((Zfr A3 c3 x.inn w1 (Zac r3 HB1) l3).mono (fun e w9 h=>⟨match h.1 with | ⟨v,he,h1⟩=>⟨v,he,h1⟩,h.2⟩)) hk1 hb1.size ?_
 rintro v w2 h3 hb2 hk2
 obtain ⟨E3,L3,g3,rfl⟩:=Zba h3
 refine Zbb (by simp only [Act.put,pkA,pkB,pkC];rfl) ?_
 refine Zap (i:=6) (N:=some 9) (v:=.agg #[.int .i64 x.pc,.slice E1 L1 g1,.slice E2 L2 g2,.int .i64 x.halt,.slice E3 L3 g3]) #[true,true,true,true,true,true,true,false] rfl rfl (by kernel_rfl) (fun _ _ _ h=>h) (Or.inl ⟨by rfl,fun w1=>by go_simp <;> rfl⟩) (by simp only [Act.put,pkA,pkB,pkC];rfl) ?_
 have hb12:=hb1.trans (hb2.mono hb1.size)
 have Nr2:=Zab Nr_d hb12
 refine Znl (i:=7) (N:=none) #[true,true,true,true,true,true,true,true] rfl rfl (by kernel_rfl) (by decide) (fun K hK=>?_)
 refine Zgx rfl rfl 103 (.tmp 2) (.tmp 9) rfl (w.heap.size+1) #[.int .i64 x.pc,.slice E1 L1 g1,.slice E2 L2 g2,.int .i64 x.halt,.slice E3 L3 g3] rfl rfl 103 #[.int .i64 0,.slice none 0 0,.slice none 0 0,.int .i64 0,.slice none 0 0] Nr2 (by kernel_rfl) rfl (by simp [Value.oneCell']) (fun w9 N9 hk9=>?_)
 refine hK.out _ _ ?_
 clear hK K
 refine Zgw (by kernel_rfl) ?_
 go_wp2
 refine bodyPost_ret (results_cell_row rfl _ _ (w.heap.size+1) 103 #[.int .i64 x.pc,.slice E1 L1 g1,.slice E2 L2 g2,.int .i64 x.halt,.slice E3 L3 g3] (0,0) _ rfl N9 Tryz.underlying103 rfl (by kernel_rfl)) rfl ?_
 have hsd:=hd.size
 have hs1:=hb1.size
 have HB2:=HB1.trans (hb2.mono HB1.size)
 refine ⟨⟨_,rfl,Zlw (fun k=>if k<w1.heap.size then f k else 4) (Zae (Zah (Zaj (Zaf h1) hb2) (fun k hk hl=>hk9.block k hl (fun e=>by (try dsimp only at hk e);omega))) (fun k hk=>⟨by (try dsimp only at hk);omega,(if_pos hk.2).trans hk.1.2⟩)) (Zae (Zah (Zaj (Zaf h2) hb2) (fun k hk hl=>hk9.block k hl (fun e=>by (try dsimp only at hk e);omega))) (fun k hk=>⟨by (try dsimp only at hk);omega,(if_pos hk.2).trans hk.1.2⟩)) (Zae (Zah h3 (fun k hk hl=>hk9.block k hl (fun e=>by (try dsimp only at hk e);omega))) (fun k hk=>⟨by (try dsimp only at hk);omega,if_neg (by (try dsimp only at hk);omega)⟩))⟩,HB2.trans ⟨hk9.os,hk9.tape,hk9.output,hk9.size,fun b_ hb=>hk9.block b_ (by have:=HB2.size;omega) (fun e=>by omega)⟩⟩
end Go.Proofs.YtaeckoinpllpnaaGreat
