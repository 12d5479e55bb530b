/- Part 21 of the proof of its last text: this session's own texts, shortened and joined by a program of its own (wip/pack.py). -/
import Derived.Test.YtaeckoinpllpnaaGreatTaa
import Derived.Test.YtaeckoinpllpnaaGreatTat
import Derived.Test.YtaeckoinpllpnaaGreatTaf
set_option linter.unusedVariables false
set_option linter.unusedSimpArgs false
set_option maxHeartbeats 16000000
set_option maxRecDepth 100000
namespace Go.Proofs.YtaeckoinpllpnaaGreat
open Go.RowKit Go.Proofs.YtaeckoinpllpnaaGreatW.PrintWords Go.Proofs.YtaeckoinpllpnaaGreatW.PrintLast
theorem Zjb (x:Pln) (cs:List Value) (w:World) (hP:allK w x kPln cs) (hsm1:∀ (j:Nat) (z:Cel),x.cells[j]? = some z→z.code.length≤1048576) (hsm2:∀ (j:Nat) (z:Wy),x.ways[j]? = some z→z.guard.length≤1048576) (hl1:x.cells.length≤1048576) (hl2:x.ways.length≤1048576) (hl3:x.slots.length≤1048576) (hl4:x.turns.length≤1048576) (hsm4:∀ (j:Nat) (z:List Int),x.turns[j]? = some z→z.length≤1048576) :
  Calls Tryz.prog 55 #[.agg cs.toArray] w fun e w'=>(∃ cs:List Value,e=.returned (.agg cs.toArray)∧Own kPln w' (fun k=>w.heap.size≤k) x cs)∧Below w.heap.size w w':=by
 obtain ⟨A1,c1,A2,c2,A3,c3,A4,c4,rfl,l1,r1,l2,r2,l3,r3,l4,r4⟩:=Zcs hP
 obtain ⟨W,eW,hb0,Np,Nr⟩:=new2 w (.cells #[.int .i64 x.nodes,.int .i64 x.secret,.int .i64 x.fuel,.slice A1 x.cells.length c1,.slice A2 x.ways.length c2,.slice A3 x.slots.length c3,.slice A4 x.turns.length c4] 33) (.cells #[.int .i64 0,.int .i64 0,.int .i64 0,.slice none 0 0,.slice none 0 0,.slice none 0 0,.slice none 0 0] 33)
 go_enter Tryz.func55,Tryz.ntmps55
 go_upto_region 1 with (fail)
 refine wp_at eW ?_
 clear eW
 refine Zfm (n:=13) (S:=fun w1=>Below W.heap.size W w1) (ds:=[12]) #[false,false,false,false,false,false,false,false,false,false,false,false,false] (by kernel_rfl) rfl rfl (Zat (brf_)) (fun hWd=>?_)
 refine head2g #[false,false,false,false,false,false,false,false,false,false,false,false,false] #[true,false,false,false,false,false,false,false,false,false,false,false,false] #[true,true,false,false,false,false,false,false,false,false,false,false,false] 0 1 9 10 1 3 33 0 0 w.heap.size (u:=.int .i64 x.nodes) ⟨rfl,rfl⟩ (by kernel_rfl) ⟨rfl,rfl,rfl⟩ ⟨rfl,rfl,rfl⟩ rfl (show 9<86 by decide) (fun w1=>by go_simp) (fun w1 hk=>by have h9:=cellsP1 (Zab Np hk);go_simp) hWd (fun _ _ _ d _ h=>by cases d <;> exact h) ?_
 refine Zbb (by simp only [Act.put,pkA,pkB,pkC];rfl) ?_
 refine head2g #[true,true,false,false,false,false,false,false,false,false,false,false,false] #[true,true,true,false,false,false,false,false,false,false,false,false,false] #[true,true,true,true,false,false,false,false,false,false,false,false,false] 2 3 11 12 1 3 33 1 1 w.heap.size (u:=.int .i64 x.secret) ⟨rfl,rfl⟩ (by kernel_rfl) ⟨rfl,rfl,rfl⟩ ⟨rfl,rfl,rfl⟩ rfl (show 11<86 by decide) (fun w1=>by go_simp) (fun w1 hk=>by obtain ⟨-,h9⟩:=cellsP2 (Zab Np hk);go_simp) hWd (fun _ _ _ d _ h=>by cases d <;> exact h) ?_
 refine Zbb (by simp only [Act.put,pkA,pkB,pkC];rfl) ?_
 refine head2g #[true,true,true,true,false,false,false,false,false,false,false,false,false] #[true,true,true,true,true,false,false,false,false,false,false,false,false] #[true,true,true,true,true,true,false,false,false,false,false,false,false] 4 5 13 14 1 3 33 2 2 w.heap.size (u:=.int .i64 x.fuel) ⟨rfl,rfl⟩ (by kernel_rfl) ⟨rfl,rfl,rfl⟩ ⟨rfl,rfl,rfl⟩ rfl (show 13<86 by decide) (fun w1=>by go_simp) (fun w1 hk=>by obtain ⟨-,-,h9⟩:=cellsP3 (Zab Np hk);go_simp) hWd (fun _ _ _ d _ h=>by cases d <;> exact h) ?_
 refine Zbb (by simp only [Act.put,pkA,pkB,pkC];rfl) ?_
 refine head2g #[true,true,true,true,true,true,false,false,false,false,false,false,false] #[true,true,true,true,true,true,false,true,false,false,false,false,false] #[true,true,true,true,true,true,false,true,true,false,false,false,false] 7 8 16 17 1 31 33 5 5 w.heap.size (u:=.slice A3 x.slots.length c3) ⟨rfl,rfl⟩ (by kernel_rfl) ⟨rfl,rfl,rfl⟩ ⟨rfl,rfl,rfl⟩ rfl (show 16<86 by decide) (fun w1=>by go_simp) (fun w1 hk=>by obtain ⟨-,-,-,-,-,h9⟩:=cellsP6 (Zab Np hk);go_simp) hWd (fun _ _ _ d _ h=>by cases d <;> exact h) ?_
 refine Zbb (by simp only [Act.put,pkA,pkB,pkC];rfl) ?_
 refine Zia 86 W.heap.size [6,9,10] 11 11 1000 1000 3 4 (fun m=>if m=0 then 15 else if m=1 then 18 else 19) (fun g=>.pointer (some ⟨g,0,none⟩)) (fun g=>.pointer (some ⟨g,0,none⟩)) (.cells #[.int .i64 0,.int .i64 0,.int .i64 0,.slice none 0 0,.slice none 0 0,.slice none 0 0,.slice none 0 0] 33) (.cells #[.int .i64 0,.int .i64 0,.int .i64 0,.slice none 0 0,.slice none 0 0,.slice none 0 0,.slice none 0 0] 33) (fun m b1 b2=>#[true,true,true,true,true,true,decide (1≤m),true,true,decide (2≤m),decide (3≤m),b1,false]) 1 (fun m a wx T=>a.tmps.size=86∧Sl [(1,.pointer (some ⟨w.heap.size,0,none⟩)),(2,.pointer (some ⟨w.heap.size+1,0,none⟩)),(10,.int .i64 x.nodes),(12,.int .i64 x.secret),(14,.int .i64 x.fuel),(17,.slice A3 x.slots.length c3)] a∧Below W.heap.size W wx∧(∀ k,T k→W.heap.size≤k)∧(m=1→∃ g0,a.eval (.tmp 15)=.slice (some ⟨g0,0,none⟩) 0 0∧Rw kSlt 121 wx (fun k=>k=g0) (.slice (some ⟨g0,0,none⟩) 0 0) []∧T g0)∧(2≤m→∃ B L9 d,a.eval (.tmp 18)=.slice B L9 d∧Rw kSlt 121 wx T (.slice B L9 d) x.slots∧(3≤m→a.eval (.tmp 19)=.agg #[.int .i64 x.nodes,.int .i64 x.secret,.int .i64 x.fuel,.slice none 0 0,.slice none 0 0,.slice B L9 d,.slice none 0 0]))) true false (by kernel_rfl) ?hsz ?ht ?hlo ?hS _ ?st1 ?st2 ?hn1 ?hn2 ?hc ?hend 4 0 false true (fun _=>undef) _ _ (fun _=>False) 0 0 rfl (by decide) rfl (fun h=>by cases h) (fun _=>rfl) (fun h=>by simp at h) (fun h=>by simp at h) ?hin (fun _ h=>h.elim) (fun _ h=>by cases h) (fun h=>by cases h) (fun _ h=>by cases h)
 case hsz=>exact fun m a wx T h=>h.1
 case ht=>exact ⟨by decide,by decide,by decide,fun m=>by split <;> (try split) <;> decide⟩
 case hlo=>exact fun m a wx T h=>h.2.2.1.size
 case hS=>exact fun m a wx T h=>h.2.2.1
 case st1 =>
  rintro m a wx T ⟨h1,h2,h3,h4,h5,h6⟩ hT
  have hb9:Below wx.heap.size wx (wx.alloc (.cells #[.int .i64 0,.int .i64 0,.int .i64 0,.slice none 0 0,.slice none 0 0,.slice none 0 0,.slice none 0 0] 33)):=(brf_).alloc nlr_ _
  refine ⟨by rw [Zcb];exact h1,h2.put (by kernel_rfl),h3.alloc h3.size _,h4,fun e=>?_,fun e=>?_⟩
  ·obtain ⟨g0,q1,q2,q3⟩:=h5 e
   exact ⟨g0,(Zaq (by decide)).trans q1,Zaj q2 hb9,q3⟩
  ·obtain ⟨B,L9,d,q1,q2,q3⟩:=h6 e
   exact ⟨B,L9,d,(Zaq (by decide)).trans q1,Zaj q2 hb9,fun e=>(Zaq (by decide)).trans (q3 e)⟩
 case st2 =>
  rintro m a wx T ⟨h1,h2,h3,h4,h5,h6⟩ hT
  have hb9:Below wx.heap.size wx (wx.alloc (.cells #[.int .i64 0,.int .i64 0,.int .i64 0,.slice none 0 0,.slice none 0 0,.slice none 0 0,.slice none 0 0] 33)):=(brf_).alloc nlr_ _
  refine ⟨by rw [Zcb];exact h1,h2.put (by kernel_rfl),h3.alloc h3.size _,h4,fun e=>?_,fun e=>?_⟩
  ·obtain ⟨g0,q1,q2,q3⟩:=h5 e
   exact ⟨g0,(Zaq (by decide)).trans q1,Zaj q2 hb9,q3⟩
  ·obtain ⟨B,L9,d,q1,q2,q3⟩:=h6 e
   exact ⟨B,L9,d,(Zaq (by decide)).trans q1,Zaj q2 hb9,fun e=>(Zaq (by decide)).trans (q3 e)⟩
 case hn1=>exact fun _ m a wx T h=>⟨_,rfl,rfl,rfl,by unfold execOp;go_simp⟩
 case hn2=>exact fun h=>by cases h
 case hc =>
  intro m i hi a wx T g1 g2 ⟨h1,h2,h3,h4,h5,h6⟩ hT _ _
  match m,hi with
  | 0,hi =>
   obtain rfl:=Option.some.inj hi
   refine ⟨_,rfl,rfl,rfl,fun K hK=>?_⟩
   refine Zgd (t:=15) (v:=.slice (some ⟨wx.heap.size,0,none⟩) 0 0) (w1:=wx.alloc (.cells #[] 121)) rfl rfl (by unfold execOp;go_simp) ?_
   have hsz:=Zcq wx (.cells #[] 121)
   refine hK _ _ (fun k=>k=wx.heap.size) ⟨by rw [Zcb];exact h1,h2.put (by kernel_rfl),h3.alloc h3.size _,fun k hk=>by have:=h3.size;omega,fun _=>⟨_,Zco (by rw [h1];decide),Zfl _ _ _ _ rfl,rfl⟩,fun e=>by omega⟩ (fun k hk=>by omega) (by omega) (fun k hk=>Or.inr (Or.inl (by omega))) (fun k hk _ _ _=>Below.heap_alloc _ _ _ hk)
  | 1,hi =>
   obtain rfl:=Option.some.inj hi
   obtain ⟨g0,q1,q2,q3⟩:=h5 rfl
   have hg0:=hT g0 q3
   refine ⟨_,rfl,rfl,rfl,fun K hK=>?_⟩
   refine Zdj kSlt fSlt rfl (.tmp 15) (.tmp 17) 31 121 _ _ rfl Tryz.underlying31 iSlt rfl (by decide) (by omega) g0 _ x.slots A3 c3 q1 (h2 (17,_) (by simp)) q2 hg0 (Zac (Zac r3 hb0) h3) (by omega) ?_
   intro v1 w1 hR hs hm hbl
   obtain ⟨B,L9,d,rfl⟩:=Zba hR
   refine hK _ _ (fun k=>k<w1.heap.size∧(k=g0∨wx.heap.size≤k)) ⟨by rw [Zcb];exact h1,h2.put (by kernel_rfl),h3.trans (hbl.mono (h4 g0 q3)),fun k hk=>by have:=h4 g0 q3;have:=h3.size;omega,fun e=>by omega,fun _=>⟨B,L9,d,Zco (by rw [h1];decide),Zae (Zaf hR) (fun k hk=>⟨hk.2,hk.1⟩),fun e=>by omega⟩⟩ (fun k hk=>hk.1) hs (fun k hk=>hk.2.elim (fun e=>Or.inl (by rw [e];exact q3)) (fun e=>Or.inr (Or.inl e))) (fun k hk hn _ _=>hm k hk (fun e=>hn (by rw [e];exact q3)))
  | 2,hi =>
   obtain rfl:=Option.some.inj hi
   obtain ⟨B,L9,d,q1,q2,q3⟩:=h6 (by omega)
   refine ⟨_,rfl,rfl,rfl,fun K hK=>?_⟩
   have e10:a.eval (.tmp 10)=.int .i64 x.nodes:=h2 (10,.int .i64 x.nodes) (by simp)
   have e12:a.eval (.tmp 12)=.int .i64 x.secret:=h2 (12,.int .i64 x.secret) (by simp)
   have e14:a.eval (.tmp 14)=.int .i64 x.fuel:=h2 (14,.int .i64 x.fuel) (by simp)
   refine Zgd (t:=19) (v:=.agg #[.int .i64 x.nodes,.int .i64 x.secret,.int .i64 x.fuel,.slice none 0 0,.slice none 0 0,.slice B L9 d,.slice none 0 0]) (w1:=wx) rfl rfl (by revert e10 e12 e14 q1;unfold execOp;generalize a.eval=ρ;intro e10 e12 e14 q1;go_simp <;> rfl) ?_
   exact hK _ _ T ⟨by rw [Zcb];exact h1,h2.put (by kernel_rfl),h3,h4,fun e=>by omega,fun _=>⟨B,L9,d,(Zaq (by decide)).trans q1,q2,fun _=>Zco (by rw [h1];decide)⟩⟩ hT nlr_ (fun k hk=>Or.inl hk) (fun k _ _ _ _=>rfl)
 case hin=>exact ⟨rfl,fun p hp=>by simp only [List.mem_cons,List.not_mem_nil,or_false] at hp;rcases hp with rfl | rfl | rfl | rfl | rfl | rfl <;> rfl,hWd,fun _ h=>h.elim,fun e=>by omega,fun e=>by omega⟩
 case hend =>
  intro cv g g2 a wx T ha ⟨h1,h2,h3,h4,h5,h6⟩ hT hn1 _ _
  obtain ⟨B,L9,d,q1,q2,q3⟩:=h6 (by decide)
  have q3:=q3 (by decide)
  obtain ⟨k1,k2,k3,k4,k5⟩:=hn1 rfl (by decide)
  have z15:cv 1=.slice B L9 d:=by rw [ha] at q1;exact q1
  have z19:cv 2=.agg #[.int .i64 x.nodes,.int .i64 x.secret,.int .i64 x.fuel,.slice none 0 0,.slice none 0 0,.slice B L9 d,.slice none 0 0]:=by rw [ha] at q3;exact q3
  refine Znl (i:=12) (N:=none) #[true,true,true,true,true,true,true,true,true,true,true,true,true] rfl rfl (by kernel_rfl) (by decide) (fun K hK=>?_)
  refine Zgx rfl rfl 33 (.tmp 3) (.tmp 19) rfl g #[.int .i64 x.nodes,.int .i64 x.secret,.int .i64 x.fuel,.slice none 0 0,.slice none 0 0,.slice B L9 d,.slice none 0 0] k1 q3 33 #[.int .i64 0,.int .i64 0,.int .i64 0,.slice none 0 0,.slice none 0 0,.slice none 0 0,.slice none 0 0] k2 (by kernel_rfl) rfl (by simp [Value.oneCell']) (fun w9 Ng hk=>?_)
  refine hK.out _ _ ?_
  clear hK K
  refine Zgw (by kernel_rfl) ?_
  subst ha
  simp only [canB,Zqg,canC,List.length_cons,List.length_nil,if_true,if_false,Bool.false_eq_true,Nat.zero_add,Nat.reduceAdd,Nat.reduceEqDiff,z15,z19]
  simp only [Act.put,pkA,pkB,pkC]
  have hWs:=h3.size
  have hW2:w.heap.size+1<W.heap.size:=Zao Nr
  have hgg:w.heap.size+1<g:=by omega
  have hw9:Below W.heap.size W w9:=h3.trans ⟨hk.os,hk.tape,hk.output,hk.size,fun k hk1=>hk.block k (by omega) (fun e=>by omega)⟩
  have HB:=hb0.trans (hw9.mono hb0.size)
  replace Nr:=Zab Nr hw9
  replace Np:=Zab Np hw9
  have HN:P8 w9 (fun k=>w.heap.size≤k∧k≠w.heap.size∧k≠w.heap.size+1∧k≠g) (fun _=>2) (pRw kCel 107 (.slice none 0 0) ([])) (pRw kWy 112 (.slice none 0 0) ([])) (pRw kSlt 121 (.slice B L9 d) (x.slots)) (pRw Zda 90 (.slice none 0 0) ([])) Zbw Zbw Zbw Zbw:=⟨Zbq _ _ _ _,Zbq _ _ _ _,Zae (Zah q2 (fun k hk1 hl=>hk.block k hl (fun e=>by subst e;exact k3 hk1))) (fun k hk1=>⟨⟨by have:=h4 k hk1;omega,by have:=h4 k hk1;omega,by have:=h4 k hk1;omega,fun e=>by subst e;exact k3 hk1⟩,rfl⟩),Zbq _ _ _ _,trivial,trivial,trivial,trivial,pcRw _ _ _ _,pcRw _ _ _ _,pcRw _ _ _ _,pcRw _ _ _ _,Zet,Zet,Zet,Zet⟩
  generalize Value.slice B L9 d=u3 at *
  generalize cv 0=vz at *
  clear h1 h2 h3 h4 h5 h6 hT hn1 q1 q2 q3 k1 k2 k3 k4 k5 z15 z19 hk hw9 hWd hWs hb0
  go_wp2
  go_loopw [4] (fun i wr=>∃ (k:Nat) (u1:Value) (f:Nat→Nat),k≤x.cells.length∧i=.int .i64 k∧wr.heap[g]? = some (.cells #[.int .i64 x.nodes,.int .i64 x.secret,.int .i64 x.fuel,u1,.slice none 0 0,u3,.slice none 0 0] 33 (0,0))∧wr.heap[w.heap.size+1]? = some (.cells #[.int .i64 0,.int .i64 0,.int .i64 0,.slice none 0 0,.slice none 0 0,.slice none 0 0,.slice none 0 0] 33 (0,0))∧wr.heap[w.heap.size]? = some (.cells #[.int .i64 x.nodes,.int .i64 x.secret,.int .i64 x.fuel,.slice A1 x.cells.length c1,.slice A2 x.ways.length c2,.slice A3 x.slots.length c3,.slice A4 x.turns.length c4] 33 (0,0))∧P8 wr (fun k=>w.heap.size≤k∧k≠w.heap.size∧k≠w.heap.size+1∧k≠g) f (pRw kCel 107 (u1) (x.cells.take k)) (pRw kWy 112 (.slice none 0 0) ([])) (pRw kSlt 121 (u3) (x.slots)) (pRw Zda 90 (.slice none 0 0) ([])) Zbw Zbw Zbw Zbw∧Below w.heap.size w wr) (fun i _=>x.cells.length-(intOf i).toNat)
  case atStart=>exact ⟨0,_,_,Nat.zero_le _,rfl,Ng,Nr,Np,HN,HB⟩
  case round =>
   clear Ng Nr Np HN HB
   obtain ⟨k,u1,f,hk,rfl,Ng,Nr,Np,HN,HB⟩:=hrel
   have hgl:=Zao Ng
   obtain ⟨-,-,-,p3⟩:=cellsP4 Np
   by_cases hlt:k<x.cells.length
   ·obtain ⟨z,hz⟩:=Zar x.cells hlt
    obtain ⟨ad,D1,g1,eA,z0,z1,z2,z3,z4,m1,s1⟩:=Zed r1 hz
    subst eA
    have hml:=hsm1 k z hz
    replace z0:=Zaa HB z0
    replace z1:=Zaa HB z1
    replace z2:=Zaa HB z2
    replace z3:=Zaa HB z3
    replace z4:=Zaa HB z4
    have s1:=Zac s1 HB
    obtain ⟨-,-,-,p3⟩:=cellsP4 Np
    go_upto_region 6 with (fail)
    change Code.wp _ _ _ _ (wr.alloc (.cells #[.int .i64 z.node,.int .i64 z.lvl,.int .i64 z.marks,.bool z.again,.slice D1 z.code.length g1] 107))
    replace Ng:=Zal Ng (.cells #[.int .i64 z.node,.int .i64 z.lvl,.int .i64 z.marks,.bool z.again,.slice D1 z.code.length g1] 107)
    replace Nr:=Zal Nr (.cells #[.int .i64 z.node,.int .i64 z.lvl,.int .i64 z.marks,.bool z.again,.slice D1 z.code.length g1] 107)
    replace Np:=Zal Np (.cells #[.int .i64 z.node,.int .i64 z.lvl,.int .i64 z.marks,.bool z.again,.slice D1 z.code.length g1] 107)
    have Ny:=Zas wr (.cells #[.int .i64 z.node,.int .i64 z.lvl,.int .i64 z.marks,.bool z.again,.slice D1 z.code.length g1] 107)
    have hal:Below wr.heap.size wr (wr.alloc (.cells #[.int .i64 z.node,.int .i64 z.lvl,.int .i64 z.marks,.bool z.again,.slice D1 z.code.length g1] 107)):=(brf_).alloc nlr_ _
    have s1:=Zac s1 hal
    generalize hgy:wr.heap.size=gy at *
    have hgl:g<gy:=by omega
    replace HB:=HB.alloc HB.size (.cells #[.int .i64 z.node,.int .i64 z.lvl,.int .i64 z.marks,.bool z.again,.slice D1 z.code.length g1] 107)
    have HN:P8 (wr.alloc (.cells #[.int .i64 z.node,.int .i64 z.lvl,.int .i64 z.marks,.bool z.again,.slice D1 z.code.length g1] 107)) (fun k=>w.heap.size≤k∧k≠w.heap.size∧k≠w.heap.size+1∧k≠g∧k≠gy) f (pRw kCel 107 (u1) (x.cells.take k)) (pRw kWy 112 (.slice none 0 0) ([])) (pRw kSlt 121 (u3) (x.slots)) (pRw Zda 90 (.slice none 0 0) ([])) Zbw Zbw Zbw Zbw:=HN.skip (fun k _ hl=>Below.heap_alloc _ _ _ hl) (fun k hk hl=>by (try dsimp only at hk ⊢);omega)
    generalize wr.alloc (.cells #[.int .i64 z.node,.int .i64 z.lvl,.int .i64 z.marks,.bool z.again,.slice D1 z.code.length g1] 107)=W1 at *
    have hyl:=Zao Ny
    clear z0 z1 z2 z3 z4 p3 hal
    obtain ⟨-,-,-,-,e4⟩:=cellsP5 Ny
    have hbl:Below W1.heap.size W1 (W1.alloc (.cells #[] 181)):=(brf_).alloc nlr_ _
    have e5:(W1.alloc (.cells #[] 181)).cell? ⟨gy,4,none⟩=some (.slice D1 z.code.length g1):=Zaa hbl e4
    go_upto_region 7 with ((with_reducible refine Zfo (b:=.append) (xs:=#[.tmp 32,.tmp 34]) rfl ?_);at_builtin;(refine Zdi kOrd fOrd (w0:=W1) rfl (.tmp 32) (.tmp 34) 105 181 _ _ rfl Tryz.underlying105 iOrd rfl (by decide) (by omega) (.slice (some ⟨W1.heap.size,0,none⟩) 0 0) [] z.code D1 g1 (fun k=>W1.heap.size≤k) rfl rfl (Zfl kOrd 181 W1 (fun k=>W1.heap.size≤k) nlr_) (Zac s1 hbl) ?aS ?aF ?aB ?aL ?_);(case aS=>exact fun _ h=>h);(case aF=>exact fun b h=>Nat.le_trans (hbl).size h);(case aB=>exact hbl);(case aL=>simp;omega);intro v1 w1 hR1 hb1 hg1 hat1;obtain ⟨Bv,Lv,dv,rfl⟩:=Zba hR1;have Ny1:=Zab Ny hb1;obtain ⟨-,-,-,-,e6⟩:=cellsP5 Ny1;have f6:=Zad Ny1 4)
    have Ng2:=Zav (p:=⟨gy,4,none⟩) (Zab Ng hb1) (show g≠gy by omega) (.slice Bv Lv dv)
    have Nr2:=Zav (p:=⟨gy,4,none⟩) (Zab Nr hb1) (show w.heap.size+1≠gy by omega) (.slice Bv Lv dv)
    have Np2:=Zav (p:=⟨gy,4,none⟩) (Zab Np hb1) (show w.heap.size≠gy by omega) (.slice Bv Lv dv)
    have Ny2:(w1.setCell ⟨gy,4,none⟩ (.slice Bv Lv dv)).heap[gy]? = some (.cells #[.int .i64 z.node,.int .i64 z.lvl,.int .i64 z.marks,.bool z.again,.slice Bv Lv dv] 107 (0,0)):=Zau Ny1 4 (.slice Bv Lv dv)
    have hR2:Rw kOrd 181 (w1.setCell ⟨gy,4,none⟩ (.slice Bv Lv dv)) (fun k=>W1.heap.size≤k) (.slice Bv Lv dv) z.code:=Zah (by simpa using hR1) (fun k hk _=>Below.heap_setCell w1 ⟨gy,4,none⟩ _ k (by (try dsimp only at hk ⊢);omega))
    have HB2:=Zak (j:=4) (v:=.slice Bv Lv dv) (HB.trans (hb1.mono HB.size)) (show w.heap.size≤gy by omega)
    have HN2:=HN.skipf (w1:=(w1.setCell ⟨gy,4,none⟩ (.slice Bv Lv dv))) (T:=fun k=>w.heap.size≤k∧k≠w.heap.size∧k≠w.heap.size+1∧k≠g∧k≠gy) (g:=lab W1.heap.size f 0) (fun k hk hl=>(Below.heap_setCell w1 ⟨gy,4,none⟩ (.slice Bv Lv dv) k (by (try dsimp only at hk ⊢);omega)).trans (hb1.block k hl)) (fun _ hk _=>hk) (fun k _ hl=>Zfq hl)
    have hR3:=Zaf hR2
    have hs12:W1.heap.size≤(w1.setCell ⟨gy,4,none⟩ (.slice Bv Lv dv)).heap.size:=by have:=hb1.size;simpa [World.setCell] using this
    have HO:Rw kCel 107 (w1.setCell ⟨gy,4,none⟩ (.slice Bv Lv dv)) (fun k=>((fun k=>w.heap.size≤k∧k≠w.heap.size∧k≠w.heap.size+1∧k≠g∧k≠gy) k∧((k<(w1.setCell ⟨gy,4,none⟩ (.slice Bv Lv dv)).heap.size∧lab W1.heap.size f 0 k=0)∨(w1.setCell ⟨gy,4,none⟩ (.slice Bv Lv dv)).heap.size≤k))∧¬(W1.heap.size≤k∧k<(w1.setCell ⟨gy,4,none⟩ (.slice Bv Lv dv)).heap.size)) (u1) (x.cells.take k):=Zae (Zah (Zaf HN.r0) (fun k hk _=>(Below.heap_setCell w1 ⟨gy,4,none⟩ (.slice Bv Lv dv) k (by have:=hk.1.1;(try dsimp only at this ⊢);omega)).trans (hb1.block k hk.2))) (fun k hk=>⟨⟨hk.1.1,Or.inl ⟨by omega,by rw [Zfq hk.2];exact hk.1.2⟩⟩,by omega⟩)
    clear Ng Nr Np Ny Ny1 HB HN hR1 hR2 hb1 hg1 hat1 e4 e6 f6 s1 e5 hbl
    generalize (w1.setCell ⟨gy,4,none⟩ (.slice Bv Lv dv))=W2 at *
    obtain ⟨y0,y1,y2,y3,y4⟩:=cellsP5 Ny2
    obtain ⟨-,-,-,c3⟩:=cellsP4 Ng2
    have hob:∀ q,(u1:Value).ownBlock=some q→(fun k=>w.heap.size≤k∧k≠w.heap.size∧k≠w.heap.size+1∧k≠g∧k≠gy) q∧lab W1.heap.size f 0 q=0:=fun q e=>((Zca HN2.r0) q e).1
    go_wp2_with ((with_reducible refine Zfo (b:=.append) (xs:=#[.tmp 38,.tmp 40]) rfl ?_);at_builtin;(refine Zdg kCel (w0:=w) rfl (.tmp 38) (.tmp 40) 29 107 _ _ rfl Tryz.underlying29 iCel rfl (by decide) (by omega) (u1) (x.cells.take k) z [.int .i64 z.node,.int .i64 z.lvl,.int .i64 z.marks,.bool z.again,.slice Bv Lv dv] (fun k=>(fun k=>w.heap.size≤k∧k≠w.heap.size∧k≠w.heap.size+1∧k≠g∧k≠gy) k∧((k<W2.heap.size∧lab W1.heap.size f 0 k=0)∨W2.heap.size≤k)) (fun k=>W1.heap.size≤k∧k<W2.heap.size) rfl rfl (Zva hR3) HO ?aT ?aS ?aF HB2 ?aL ?_);(case aT=>exact fun k hk=>⟨by (try dsimp only);omega,Or.inl ⟨hk.2,Zta hk.1⟩⟩);(case aS=>exact fun k hk=>hk.1.1);(case aF=>exact fun k hk=>⟨by (try dsimp only);omega,Or.inr hk⟩);(case aL=>simp;omega);intro v2 w2 hR4 HB3 hgr hat;obtain ⟨B,L9,d,rfl⟩:=Zba hR4;have Ng3:=Zch Ng2 hgr (fun e=>by have:=(hob _ e.symm).1;(try dsimp only at this);omega);have Nr3:=Zch Nr2 hgr (fun e=>by have:=(hob _ e.symm).1;(try dsimp only at this);omega);have Np3:=Zch Np2 hgr (fun e=>by have:=(hob _ e.symm).1;(try dsimp only at this);omega);obtain ⟨-,-,-,e7⟩:=cellsP4 Ng3;have f7:=Zad Ng3 3)
    have HN3:=(HN2.app0 brf_ hgr (fun q e=>(hob q e).2) (pcRw _ _ _ _) hR4).skip (w1:=w2.setCell ⟨g,3,none⟩ (.slice B L9 d)) (T:=fun k=>w.heap.size≤k∧k≠w.heap.size∧k≠w.heap.size+1∧k≠g) (fun b_ hk _=>Below.heap_setCell w2 ⟨g,3,none⟩ (.slice B L9 d) b_ (by (try dsimp only at hk ⊢);omega)) (fun k hk _=>⟨hk.1,hk.2.1,hk.2.2.1,hk.2.2.2.1⟩)
    refine ⟨⟨k+1,_,_,by omega,rfl,Zau Ng3 3 (.slice B L9 d),Zav (p:=⟨g,3,none⟩) Nr3 (show w.heap.size+1≠g by omega) (.slice B L9 d),Zav (p:=⟨g,3,none⟩) Np3 (show w.heap.size≠g by omega) (.slice B L9 d),by rw [List.take_succ_eq_append_getElem hlt,← (List.getElem?_eq_some_iff.1 hz).2] at *;exact HN3,Zak (j:=3) (v:=.slice B L9 d) HB3 (show w.heap.size≤g by omega)⟩, ?_⟩
    simp [intOf]
    omega
   ·have e:k=x.cells.length:=by omega
    subst e
    rw [List.take_length] at HN
    go_wp2
    clear p3
    go_loopw [6] (fun i wr=>∃ (k:Nat) (u1 u2:Value) (f:Nat→Nat),k≤x.ways.length∧i=.int .i64 k∧wr.heap[g]? = some (.cells #[.int .i64 x.nodes,.int .i64 x.secret,.int .i64 x.fuel,u1,u2,u3,.slice none 0 0] 33 (0,0))∧wr.heap[w.heap.size+1]? = some (.cells #[.int .i64 0,.int .i64 0,.int .i64 0,.slice none 0 0,.slice none 0 0,.slice none 0 0,.slice none 0 0] 33 (0,0))∧wr.heap[w.heap.size]? = some (.cells #[.int .i64 x.nodes,.int .i64 x.secret,.int .i64 x.fuel,.slice A1 x.cells.length c1,.slice A2 x.ways.length c2,.slice A3 x.slots.length c3,.slice A4 x.turns.length c4] 33 (0,0))∧P8 wr (fun k=>w.heap.size≤k∧k≠w.heap.size∧k≠w.heap.size+1∧k≠g) f (pRw kCel 107 (u1) (x.cells)) (pRw kWy 112 (u2) (x.ways.take k)) (pRw kSlt 121 (u3) (x.slots)) (pRw Zda 90 (.slice none 0 0) ([])) Zbw Zbw Zbw Zbw∧Below w.heap.size w wr) (fun i _=>x.ways.length-(intOf i).toNat)
    case atStart=>exact ⟨0,_,_,_,Nat.zero_le _,rfl,Ng,Nr,Np,HN,HB⟩
    case round =>
     clear Ng Nr Np HN HB hgl hlt hk
     obtain ⟨k,u1,u2,f,hk,rfl,Ng,Nr,Np,HN,HB⟩:=hrel
     have hgl:=Zao Ng
     obtain ⟨-,-,-,-,p4⟩:=cellsP5 Np
     by_cases hlt:k<x.ways.length
     ·obtain ⟨z,hz⟩:=Zar x.ways hlt
      obtain ⟨ad,D1,g1,eA,z0,z1,z2,z3,z4,m1,s1⟩:=Zhc r2 hz
      subst eA
      have hml:=hsm2 k z hz
      replace z0:=Zaa HB z0
      replace z1:=Zaa HB z1
      replace z2:=Zaa HB z2
      replace z3:=Zaa HB z3
      replace z4:=Zaa HB z4
      have s1:=Zac s1 HB
      obtain ⟨-,-,-,-,p4⟩:=cellsP5 Np
      go_upto_region 12 with (fail)
      change Code.wp _ _ _ _ (wr.alloc (.cells #[.int .i64 z.frm,.int .i64 z.dst,.int .i64 z.depth,.bool z.guarded,.slice D1 z.guard.length g1] 112))
      replace Ng:=Zal Ng (.cells #[.int .i64 z.frm,.int .i64 z.dst,.int .i64 z.depth,.bool z.guarded,.slice D1 z.guard.length g1] 112)
      replace Nr:=Zal Nr (.cells #[.int .i64 z.frm,.int .i64 z.dst,.int .i64 z.depth,.bool z.guarded,.slice D1 z.guard.length g1] 112)
      replace Np:=Zal Np (.cells #[.int .i64 z.frm,.int .i64 z.dst,.int .i64 z.depth,.bool z.guarded,.slice D1 z.guard.length g1] 112)
      have Ny:=Zas wr (.cells #[.int .i64 z.frm,.int .i64 z.dst,.int .i64 z.depth,.bool z.guarded,.slice D1 z.guard.length g1] 112)
      have hal:Below wr.heap.size wr (wr.alloc (.cells #[.int .i64 z.frm,.int .i64 z.dst,.int .i64 z.depth,.bool z.guarded,.slice D1 z.guard.length g1] 112)):=(brf_).alloc nlr_ _
      have s1:=Zac s1 hal
      generalize hgy:wr.heap.size=gy at *
      have hgl:g<gy:=by omega
      replace HB:=HB.alloc HB.size (.cells #[.int .i64 z.frm,.int .i64 z.dst,.int .i64 z.depth,.bool z.guarded,.slice D1 z.guard.length g1] 112)
      have HN:P8 (wr.alloc (.cells #[.int .i64 z.frm,.int .i64 z.dst,.int .i64 z.depth,.bool z.guarded,.slice D1 z.guard.length g1] 112)) (fun k=>w.heap.size≤k∧k≠w.heap.size∧k≠w.heap.size+1∧k≠g∧k≠gy) f (pRw kCel 107 (u1) (x.cells)) (pRw kWy 112 (u2) (x.ways.take k)) (pRw kSlt 121 (u3) (x.slots)) (pRw Zda 90 (.slice none 0 0) ([])) Zbw Zbw Zbw Zbw:=HN.skip (fun k _ hl=>Below.heap_alloc _ _ _ hl) (fun k hk hl=>by (try dsimp only at hk ⊢);omega)
      generalize wr.alloc (.cells #[.int .i64 z.frm,.int .i64 z.dst,.int .i64 z.depth,.bool z.guarded,.slice D1 z.guard.length g1] 112)=W1 at *
      have hyl:=Zao Ny
      clear z0 z1 z2 z3 z4 p4 hal
      obtain ⟨-,-,-,-,e4⟩:=cellsP5 Ny
      have hbl:Below W1.heap.size W1 (W1.alloc (.cells #[] 183)):=(brf_).alloc nlr_ _
      have e5:(W1.alloc (.cells #[] 183)).cell? ⟨gy,4,none⟩=some (.slice D1 z.guard.length g1):=Zaa hbl e4
      go_upto_region 13 with ((with_reducible refine Zfo (b:=.append) (xs:=#[.tmp 55,.tmp 57]) rfl ?_);at_builtin;(refine Zdi kRul fRul (w0:=W1) rfl (.tmp 55) (.tmp 57) 110 183 _ _ rfl Tryz.underlying110 iRul rfl (by decide) (by omega) (.slice (some ⟨W1.heap.size,0,none⟩) 0 0) [] z.guard D1 g1 (fun k=>W1.heap.size≤k) rfl rfl (Zfl kRul 183 W1 (fun k=>W1.heap.size≤k) nlr_) (Zac s1 hbl) ?aS ?aF ?aB ?aL ?_);(case aS=>exact fun _ h=>h);(case aF=>exact fun b h=>Nat.le_trans (hbl).size h);(case aB=>exact hbl);(case aL=>simp;omega);intro v1 w1 hR1 hb1 hg1 hat1;obtain ⟨Bv,Lv,dv,rfl⟩:=Zba hR1;have Ny1:=Zab Ny hb1;obtain ⟨-,-,-,-,e6⟩:=cellsP5 Ny1;have f6:=Zad Ny1 4)
      have Ng2:=Zav (p:=⟨gy,4,none⟩) (Zab Ng hb1) (show g≠gy by omega) (.slice Bv Lv dv)
      have Nr2:=Zav (p:=⟨gy,4,none⟩) (Zab Nr hb1) (show w.heap.size+1≠gy by omega) (.slice Bv Lv dv)
      have Np2:=Zav (p:=⟨gy,4,none⟩) (Zab Np hb1) (show w.heap.size≠gy by omega) (.slice Bv Lv dv)
      have Ny2:(w1.setCell ⟨gy,4,none⟩ (.slice Bv Lv dv)).heap[gy]? = some (.cells #[.int .i64 z.frm,.int .i64 z.dst,.int .i64 z.depth,.bool z.guarded,.slice Bv Lv dv] 112 (0,0)):=Zau Ny1 4 (.slice Bv Lv dv)
      have hR2:Rw kRul 183 (w1.setCell ⟨gy,4,none⟩ (.slice Bv Lv dv)) (fun k=>W1.heap.size≤k) (.slice Bv Lv dv) z.guard:=Zah (by simpa using hR1) (fun k hk _=>Below.heap_setCell w1 ⟨gy,4,none⟩ _ k (by (try dsimp only at hk ⊢);omega))
      have HB2:=Zak (j:=4) (v:=.slice Bv Lv dv) (HB.trans (hb1.mono HB.size)) (show w.heap.size≤gy by omega)
      have HN2:=HN.skipf (w1:=(w1.setCell ⟨gy,4,none⟩ (.slice Bv Lv dv))) (T:=fun k=>w.heap.size≤k∧k≠w.heap.size∧k≠w.heap.size+1∧k≠g∧k≠gy) (g:=lab W1.heap.size f 1) (fun k hk hl=>(Below.heap_setCell w1 ⟨gy,4,none⟩ (.slice Bv Lv dv) k (by (try dsimp only at hk ⊢);omega)).trans (hb1.block k hl)) (fun _ hk _=>hk) (fun k _ hl=>Zfq hl)
      have hR3:=Zaf hR2
      have hs12:W1.heap.size≤(w1.setCell ⟨gy,4,none⟩ (.slice Bv Lv dv)).heap.size:=by have:=hb1.size;simpa [World.setCell] using this
      have HO:Rw kWy 112 (w1.setCell ⟨gy,4,none⟩ (.slice Bv Lv dv)) (fun k=>((fun k=>w.heap.size≤k∧k≠w.heap.size∧k≠w.heap.size+1∧k≠g∧k≠gy) k∧((k<(w1.setCell ⟨gy,4,none⟩ (.slice Bv Lv dv)).heap.size∧lab W1.heap.size f 1 k=1)∨(w1.setCell ⟨gy,4,none⟩ (.slice Bv Lv dv)).heap.size≤k))∧¬(W1.heap.size≤k∧k<(w1.setCell ⟨gy,4,none⟩ (.slice Bv Lv dv)).heap.size)) (u2) (x.ways.take k):=Zae (Zah (Zaf HN.r1) (fun k hk _=>(Below.heap_setCell w1 ⟨gy,4,none⟩ (.slice Bv Lv dv) k (by have:=hk.1.1;(try dsimp only at this ⊢);omega)).trans (hb1.block k hk.2))) (fun k hk=>⟨⟨hk.1.1,Or.inl ⟨by omega,by rw [Zfq hk.2];exact hk.1.2⟩⟩,by omega⟩)
      clear Ng Nr Np Ny Ny1 HB HN hR1 hR2 hb1 hg1 hat1 e4 e6 f6 s1 e5 hbl
      generalize (w1.setCell ⟨gy,4,none⟩ (.slice Bv Lv dv))=W2 at *
      obtain ⟨y0,y1,y2,y3,y4⟩:=cellsP5 Ny2
      obtain ⟨-,-,-,-,c4⟩:=cellsP5 Ng2
      have hob:∀ q,(u2:Value).ownBlock=some q→(fun k=>w.heap.size≤k∧k≠w.heap.size∧k≠w.heap.size+1∧k≠g∧k≠gy) q∧lab W1.heap.size f 1 q=1:=fun q e=>((Zca HN2.r1) q e).1
      go_wp2_with ((with_reducible refine Zfo (b:=.append) (xs:=#[.tmp 61,.tmp 63]) rfl ?_);at_builtin;(refine Zdg kWy (w0:=w) rfl (.tmp 61) (.tmp 63) 30 112 _ _ rfl Tryz.underlying30 iWy rfl (by decide) (by omega) (u2) (x.ways.take k) z [.int .i64 z.frm,.int .i64 z.dst,.int .i64 z.depth,.bool z.guarded,.slice Bv Lv dv] (fun k=>(fun k=>w.heap.size≤k∧k≠w.heap.size∧k≠w.heap.size+1∧k≠g∧k≠gy) k∧((k<W2.heap.size∧lab W1.heap.size f 1 k=1)∨W2.heap.size≤k)) (fun k=>W1.heap.size≤k∧k<W2.heap.size) rfl rfl (Zxc hR3) HO ?aT ?aS ?aF HB2 ?aL ?_);(case aT=>exact fun k hk=>⟨by (try dsimp only);omega,Or.inl ⟨hk.2,Zta hk.1⟩⟩);(case aS=>exact fun k hk=>hk.1.1);(case aF=>exact fun k hk=>⟨by (try dsimp only);omega,Or.inr hk⟩);(case aL=>simp;omega);intro v2 w2 hR4 HB3 hgr hat;obtain ⟨B,L9,d,rfl⟩:=Zba hR4;have Ng3:=Zch Ng2 hgr (fun e=>by have:=(hob _ e.symm).1;(try dsimp only at this);omega);have Nr3:=Zch Nr2 hgr (fun e=>by have:=(hob _ e.symm).1;(try dsimp only at this);omega);have Np3:=Zch Np2 hgr (fun e=>by have:=(hob _ e.symm).1;(try dsimp only at this);omega);obtain ⟨-,-,-,-,e7⟩:=cellsP5 Ng3;have f7:=Zad Ng3 4)
      have HN3:=(HN2.app1 brf_ hgr (fun q e=>(hob q e).2) (pcRw _ _ _ _) hR4).skip (w1:=w2.setCell ⟨g,4,none⟩ (.slice B L9 d)) (T:=fun k=>w.heap.size≤k∧k≠w.heap.size∧k≠w.heap.size+1∧k≠g) (fun b_ hk _=>Below.heap_setCell w2 ⟨g,4,none⟩ (.slice B L9 d) b_ (by (try dsimp only at hk ⊢);omega)) (fun k hk _=>⟨hk.1,hk.2.1,hk.2.2.1,hk.2.2.2.1⟩)
      refine ⟨⟨k+1,_,_,_,by omega,rfl,Zau Ng3 4 (.slice B L9 d),Zav (p:=⟨g,4,none⟩) Nr3 (show w.heap.size+1≠g by omega) (.slice B L9 d),Zav (p:=⟨g,4,none⟩) Np3 (show w.heap.size≠g by omega) (.slice B L9 d),by rw [List.take_succ_eq_append_getElem hlt,← (List.getElem?_eq_some_iff.1 hz).2] at *;exact HN3,Zak (j:=4) (v:=.slice B L9 d) HB3 (show w.heap.size≤g by omega)⟩, ?_⟩
      simp [intOf]
      omega
     ·have e:k=x.ways.length:=by omega
      subst e
      rw [List.take_length] at HN
      go_wp2
      clear p4
      go_loopw [8] (fun i wr=>∃ (k:Nat) (u1 u2 u4:Value) (f:Nat→Nat),k≤x.turns.length∧i=.int .i64 k∧wr.heap[g]? = some (.cells #[.int .i64 x.nodes,.int .i64 x.secret,.int .i64 x.fuel,u1,u2,u3,u4] 33 (0,0))∧wr.heap[w.heap.size+1]? = some (.cells #[.int .i64 0,.int .i64 0,.int .i64 0,.slice none 0 0,.slice none 0 0,.slice none 0 0,.slice none 0 0] 33 (0,0))∧wr.heap[w.heap.size]? = some (.cells #[.int .i64 x.nodes,.int .i64 x.secret,.int .i64 x.fuel,.slice A1 x.cells.length c1,.slice A2 x.ways.length c2,.slice A3 x.slots.length c3,.slice A4 x.turns.length c4] 33 (0,0))∧P8 wr (fun k=>w.heap.size≤k∧k≠w.heap.size∧k≠w.heap.size+1∧k≠g) f (pRw kCel 107 (u1) (x.cells)) (pRw kWy 112 (u2) (x.ways)) (pRw kSlt 121 (u3) (x.slots)) (pRw Zda 90 (u4) (x.turns.take k)) Zbw Zbw Zbw Zbw∧Below w.heap.size w wr) (fun i _=>x.turns.length-(intOf i).toNat)
      case atStart=>exact ⟨0,_,_,_,_,Nat.zero_le _,rfl,Ng,Nr,Np,HN,HB⟩
      case round =>
       clear Ng Nr Np HN HB hgl hlt hk
       obtain ⟨k,u1,u2,u4,f,hk,rfl,Ng,Nr,Np,HN,HB⟩:=hrel
       have hgl:=Zao Ng
       obtain ⟨-,-,-,-,-,-,p6⟩:=cellsP7 Np
       by_cases hlt:k<x.turns.length
       ·obtain ⟨z,hz⟩:=Zar x.turns hlt
        obtain ⟨ad,D1,g1,eA,y0,m1,s1⟩:=Zhb r4 hz
        subst eA
        have y0w:=y0
        replace y0:=Zaa HB y0
        have s1:=Zac s1 HB
        have hml:=hsm4 k z hz
        go_upto_region 17 with (fail)
        clear p6
        have hgu:some g≠u4.ownBlock:=fun e=>by have:=((Zca HN.r3) _ e.symm).1;(try dsimp only at this);omega
        have hym:some (ad.add k).block≠u4.ownBlock:=fun e=>by have:=((Zca HN.r3) _ e.symm).1;have hh:=World.block_lt_of_cell? _ _ y0w;(try dsimp only at this hh);omega
        refine Zfm (n:=13) (S:=Zbc wr.drew u4.ownBlock) (ds:=[12]) #[false,false,false,false,false,false,false,false,false,false,false,false,false] (by kernel_rfl) rfl rfl (Zbc.refl _ _) (fun hK0=>?_)
        have hd:Below wr.heap.size wr wr.drew:=Zat (brf_)
        have hs:wr.drew.heap.size=wr.heap.size:=rfl
        have Ng_d:=Zab Ng hd;have Nr_d:=Zab Nr hd;have Np_d:=Zab Np hd;have y0:=Zaa hd y0;have s1:=Zac s1 hd;have HNd:=HN.step (w1:=wr.drew) (fun k _ hl=>hd.block k hl);have HB_d:=HB.trans (hd.mono HB.size)
        generalize wr.drew=Wd at *
        refine head2g #[false,false,false,false,false,false,false,false,false,false,false,false,false] #[true,false,false,false,false,false,false,false,false,false,false,false,false] #[true,true,false,false,false,false,false,false,false,false,false,false,false] 0 1 73 74 3 25 33 6 6 g (u:=u4) ⟨rfl,rfl⟩ (by kernel_rfl) ⟨rfl,rfl,rfl⟩ ⟨rfl,rfl,rfl⟩ rfl (show 73<86 by decide) (fun w1=>by go_simp) (fun w1 hk=>by have h9:w1.cell? ⟨g,6,none⟩=some (u4):=hk.cell Ng_d hgu rfl;go_simp) hK0 (fun _ _ _ d _ h=>by cases d <;> exact h) ?_
        refine Zbb (by simp only [Act.put,pkA,pkB,pkC];rfl) ?_
        refine head2g #[true,true,false,false,false,false,false,false,false,false,false,false,false] #[true,true,false,true,false,false,false,false,false,false,false,false,false] #[true,true,false,true,true,false,false,false,false,false,false,false,false] 3 4 76 77 1 25 33 6 6 w.heap.size (u:=.slice (some ad) x.turns.length c4) ⟨rfl,rfl⟩ (by kernel_rfl) ⟨rfl,rfl,rfl⟩ ⟨rfl,rfl,rfl⟩ rfl (show 76<86 by decide) (fun w1=>by go_simp) (fun w1 hk=>by have h9:w1.cell? ⟨w.heap.size,6,none⟩=some (.slice (some ad) x.turns.length c4):=hk.cell Np_d (fun e=>by have:=((Zca HN.r3) _ e.symm).1;(try dsimp only at this);omega) rfl;go_simp) hK0 (fun _ _ _ d _ h=>by cases d <;> exact h) ?_
        refine Zbb (by simp only [Act.put,pkA,pkB,pkC];rfl) ?_
        refine Zap (i:=5) (N:=some 78) (v:=.int .i64 k) #[true,true,false,true,true,true,false,false,false,false,false,false,false] rfl rfl (by kernel_rfl) (fun _ _ _ h=>h) (Or.inl ⟨by rfl,fun w1=>by go_simp⟩) (by simp only [Act.put,pkA,pkB,pkC];rfl) ?_
        refine Zap (i:=6) (N:=some 79) (v:=.pointer (some (ad.add k))) #[true,true,false,true,true,true,true,false,false,false,false,false,false] rfl rfl (by kernel_rfl) (fun _ _ _ h=>h) (Or.inl ⟨by rfl,fun w1=>by go_simp⟩) (by simp only [Act.put,pkA,pkB,pkC];rfl) ?_
        refine Zbz (i:=7) (N:=some 80) (v:=.slice D1 z.length g1) #[true,true,false,true,true,true,true,true,false,false,false,false,false] rfl rfl (by kernel_rfl) (fun _ _ _ h=>h) (Or.inl ⟨by rfl,fun w1 hk=>by have h9:=hk.at_ y0 hym;go_simp⟩) hK0 (by simp only [Act.put,pkA,pkB,pkC];rfl) ?_
        refine one_ (i:=2) (N:=some 75) (upB 13 8) rfl rfl (by kernel_rfl) (by decide) (fun K hK=>?_)
        refine Zgd (t:=75) (v:=.slice (some ⟨Wd.heap.size,0,none⟩) 0 0) (w1:=Wd.alloc (.cells #[] 3)) rfl rfl (by unfold execOp;go_simp) ?_
        have hal:Below Wd.heap.size Wd (Wd.alloc (.cells #[] 3)):=(brf_).alloc nlr_ _
        refine hK.out _ _ ((Zbc.refl _ _).alloc nlr_ _) (fun hk0=>?_)
        clear hK K
        refine Zbb (by simp only [Act.put,pkA,pkB,pkC];rfl) ?_
        have hasz:=Zcq Wd (.cells #[] 3)
        refine one_ (i:=8) (N:=some 81) (upB 13 9) rfl rfl (by kernel_rfl) (by decide) (fun K hK=>?_)
        refine Zdj kInt fInt rfl (.tmp 75) (.tmp 80) 90 3 _ _ rfl Tryz.underlying90 iInt rfl (by decide) (by omega) Wd.heap.size _ z D1 g1 rfl rfl (Zfl kInt 3 Wd (fun k=>k=Wd.heap.size) rfl) (by omega) (Zac s1 hal) (by omega) ?_
        intro v1 w1 hv hs1 hm1 hbl1
        obtain ⟨Bv,Lv,dv,rfl⟩:=Zba hv
        have hb1:Below Wd.heap.size Wd w1:=hal.trans hbl1
        refine hK.out _ _ ((Zbc.refl _ _).below nlr_ hb1) (fun hk1=>?_)
        clear hK K
        refine Zbb (by simp only [Act.put,pkA,pkB,pkC];rfl) ?_
        have hsz1:=hb1.size
        have HB_1:=HB_d.trans (hb1.mono HB_d.size)
        have hp:=Ztn (Zae hv (T:=fun k=>Wd.heap.size≤k) (fun k hk=>by (try dsimp only at hk ⊢);omega))
        refine Zcl Zda (w0:=w) 13 9 74 81 82 83 84 3 25 90 33 6 6 86 g (u:=u4) (xs:=x.turns.take k) (fun k=>(fun k=>w.heap.size≤k∧k≠w.heap.size∧k≠w.heap.size+1∧k≠g) k∧((k<Wd.heap.size∧f k=3)∨Wd.heap.size≤k)) (fun k=>Wd.heap.size≤k) ⟨rfl,rfl,rfl,rfl⟩ (by kernel_rfl) ⟨rfl,rfl,rfl⟩ ⟨rfl,rfl,rfl⟩ ⟨rfl,rfl,rfl⟩ ⟨rfl,rfl,rfl⟩ rfl (by decide) rfl rfl (fun w1=>by go_simp <;> (constructor <;> rfl)) (fun w1=>by go_simp) Tryz.underlying25 Zzk rfl (by decide) (by omega) (fun _=>by go_simp) hp ?aO ?aT ?aS ?aF HB_1 ?aL hk1 hb1.size Ng_d (show 6<7 by decide) hgu (fun _ _ _ d _ h=>by cases d <;> exact h) ?_
        (case aO=>exact Zae (Zaj (Zaf HNd.r3) hb1) (fun k hk=>by (try dsimp only at hk ⊢);omega))
        (case aT=>exact fun k hk=>by (try dsimp only at hk ⊢);omega)
        (case aS=>exact fun k hk=>by (try dsimp only at hk ⊢);omega)
        (case aF=>exact fun k hk=>by (try dsimp only at hk ⊢);omega)
        (case aL=>simp;omega)
        rintro B L9 d w2 vA vB-hR HB2 hgr hk2 -
        have hob:=fun q (e:u4.ownBlock=some q)=>((Zca HNd.r3) q e).1
        have HN3:=(HNd.app3 hb1 hgr (fun q e=>(hob q e).2) (pcRw _ _ _ _) hR).step (w1:=w2.setCell ⟨g,6,none⟩ (.slice B L9 d)) (fun b_ hk _=>Below.heap_setCell w2 ⟨g,6,none⟩ (.slice B L9 d) b_ (by (try dsimp only at hk ⊢);omega))
        have Ng3:=Zau ((hk2 g (Zao Ng_d) hgu).trans Ng_d) 6 (.slice B L9 d)
        have Nr3:=Zav (p:=⟨g,6,none⟩) ((hk2 _ (Zao Nr_d) (fun e=>by have:=(hob _ e.symm).1;(try dsimp only at this);omega)).trans Nr_d) (show w.heap.size+1≠g by omega) (.slice B L9 d)
        have Np3:=Zav (p:=⟨g,6,none⟩) ((hk2 _ (Zao Np_d) (fun e=>by have:=(hob _ e.symm).1;(try dsimp only at this);omega)).trans Np_d) (show w.heap.size≠g by omega) (.slice B L9 d)
        have HB3:=Zak (j:=6) (v:=.slice B L9 d) HB2 (show w.heap.size≤g by omega)
        simp only [Act.put,pkA,pkB,pkC]
        clear HN HNd HB Ng Nr Np Ng_d Nr_d Np_d hd hs hb1 hk0 hk1 hp hv HB_d HB_1 hk2 hgr hR y0 hob HB2 hal hbl1 hm1 hK0
        go_wp2
        refine ⟨⟨k+1,_,_,_,_,by omega,rfl,Ng3,Nr3,Np3,by rw [List.take_succ_eq_append_getElem hlt,← (List.getElem?_eq_some_iff.1 hz).2] at *;exact HN3,HB3⟩, ?_⟩
        simp [intOf]
        omega
       ·have e:k=x.turns.length:=by omega
        subst e
        rw [List.take_length] at HN
        obtain ⟨E0,L0,g0,rfl⟩:=Zba HN.r0
        obtain ⟨E1,L1,g1,rfl⟩:=Zba HN.r1
        obtain ⟨E2,L2,g2,rfl⟩:=Zba HN.r2
        obtain ⟨E3,L3,g3,rfl⟩:=Zba HN.r3
        go_wp2_with (refine Zen 33 3 2 85 g (w.heap.size+1) #[.int .i64 x.nodes,.int .i64 x.secret,.int .i64 x.fuel,.slice E0 L0 g0,.slice E1 L1 g1,.slice E2 L2 g2,.slice E3 L3 g3] #[.int .i64 0,.int .i64 0,.int .i64 0,.slice none 0 0,.slice none 0 0,.slice none 0 0,.slice none 0 0] 33 33 _ ⟨rfl,rfl,rfl⟩ ⟨rfl,rfl,rfl⟩ rfl rfl (by decide) (show 85<86 by decide) Ng Nr Tryz.underlying33 rfl (by kernel_rfl) rfl (by simp [Value.oneCell']) ?_;intro w9 N9 hk)
        refine bodyPost_ret (results_cell_row rfl _ _ (w.heap.size+1) 33 #[.int .i64 x.nodes,.int .i64 x.secret,.int .i64 x.fuel,.slice E0 L0 g0,.slice E1 L1 g1,.slice E2 L2 g2,.slice E3 L3 g3] (0,0) _ rfl N9 Tryz.underlying33 rfl (by kernel_rfl)) rfl ?_
        have HF:=HN.step (w1:=w9) (fun b_ h hl=>hk.block b_ hl (fun e=>h.2.2.1 e))
        exact ⟨⟨_,rfl,Zui (fun k=>f k+3) (Zae HF.r0 (fun k hk=>⟨hk.1.1,by (try dsimp only);omega⟩)) (Zae HF.r1 (fun k hk=>⟨hk.1.1,by (try dsimp only);omega⟩)) (Zae HF.r2 (fun k hk=>⟨hk.1.1,by (try dsimp only);omega⟩)) (Zae HF.r3 (fun k hk=>⟨hk.1.1,by (try dsimp only);omega⟩))⟩,HB.trans ⟨hk.os,hk.tape,hk.output,hk.size,fun b_ hb=>hk.block b_ (by have:=HB.size;omega) (fun e=>by omega)⟩⟩
end Go.Proofs.YtaeckoinpllpnaaGreat
