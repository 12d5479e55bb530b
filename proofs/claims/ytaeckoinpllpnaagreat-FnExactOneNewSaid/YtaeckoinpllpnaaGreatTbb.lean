/- Part 28 of the proof of its last text: this session's own texts, shortened and joined by a program of its own (wip/pack.py). -/
import Derived.Test.YtaeckoinpllpnaaGreatTaa
import Derived.Test.YtaeckoinpllpnaaGreatTaz
import Derived.Test.YtaeckoinpllpnaaGreatTba
import Derived.Test.YtaeckoinpllpnaaGreatTad
set_option linter.unusedVariables false
set_option linter.unusedSimpArgs false
set_option maxHeartbeats 16000000
set_option maxRecDepth 100000
namespace Go.Proofs.YtaeckoinpllpnaaGreat
open Go.RowKit Go.Proofs.YtaeckoinpllpnaaGreatW.PrintWords Go.Proofs.YtaeckoinpllpnaaGreatW.PrintLast
theorem Zpo (x:Wld) (cs:List Value) (w:World) (hC:allK w x kWld cs) (hsm:Zxr x) :
  Calls Tryz.prog 53 #[.agg cs.toArray] w fun e w'=>(∃ cs:List Value,e=.returned (.agg cs.toArray)∧Own kWld w' (fun k=>w.heap.size≤k) x cs)∧Below w.heap.size w w':=by
 obtain ⟨⟨p1,p2,p3,p4,p5,p6,p7⟩,hn1,hn2,hl1,hl2,hs1,hs2⟩:=hsm
 obtain ⟨A1,c1,A2,c2,A3,c3,A4,c4,A5,c5,A6,c6,A7,c7,rfl,m1,r1,m2,r2,m3,r3,m4,r4,m5,r5,m6,r6,m7,r7⟩:=Zzr hC
 have hP:allK w x.plan kPln [.int .i64 x.plan.nodes,.int .i64 x.plan.secret,.int .i64 x.plan.fuel,.slice A1 x.plan.cells.length c1,.slice A2 x.plan.ways.length c2,.slice A3 x.plan.slots.length c3,.slice A4 x.plan.turns.length c4]:=⟨rfl,rfl,rfl,⟨_,_,rfl,m1,r1⟩,⟨_,_,rfl,m2,r2⟩,⟨_,_,rfl,m3,r3⟩,⟨_,_,rfl,m4,r4⟩,trivial⟩
 obtain ⟨W,eW,hb0,Np,Nr⟩:=new2 w (.cells #[.int .i64 x.plan.nodes,.int .i64 x.plan.secret,.int .i64 x.plan.fuel,.slice A1 x.plan.cells.length c1,.slice A2 x.plan.ways.length c2,.slice A3 x.plan.slots.length c3,.slice A4 x.plan.turns.length c4,.slice A5 x.nodes.length c5,.int .i64 x.now,.slice A6 x.log.length c6,.slice A7 x.seen.length c7] 56) (.cells #[.int .i64 0,.int .i64 0,.int .i64 0,.slice none 0 0,.slice none 0 0,.slice none 0 0,.slice none 0 0,.slice none 0 0,.int .i64 0,.slice none 0 0,.slice none 0 0] 56)
 go_enter Tryz.func53,Tryz.ntmps53
 go_upto_region 1 with (fail)
 refine wp_at eW ?_
 clear eW
 have hWr:w.heap.size+1<W.heap.size:=Zao Nr
 refine Zfm (n:=8) (S:=fun w1=>Below W.heap.size W w1) (ds:=[7]) #[false,false,false,false,false,false,false,false] (by kernel_rfl) rfl rfl (Zat (brf_)) (fun hWd=>?_)
 refine head2g #[false,false,false,false,false,false,false,false] #[true,false,false,false,false,false,false,false] #[true,true,false,false,false,false,false,false] 0 1 7 8 1 33 56 0 0 w.heap.size (u:=.agg #[.int .i64 x.plan.nodes,.int .i64 x.plan.secret,.int .i64 x.plan.fuel,.slice A1 x.plan.cells.length c1,.slice A2 x.plan.ways.length c2,.slice A3 x.plan.slots.length c3,.slice A4 x.plan.turns.length c4]) ⟨rfl,rfl⟩ (by kernel_rfl) ⟨rfl,rfl,rfl⟩ ⟨rfl,rfl,rfl⟩ rfl (show 7<68 by decide) (fun w1=>by go_simp) (fun w1 hk=>by obtain ⟨h90,h91,h92,h93,h94,h95,h96⟩:=cellsP7 (Zab Np hk);go_simp) hWd (fun _ _ _ d _ h=>by cases d <;> exact h) ?_
 refine Zbb (by simp only [Act.put,pkA,pkB,pkC];rfl) ?_
 refine head2g #[true,true,false,false,false,false,false,false] #[true,true,false,true,false,false,false,false] #[true,true,false,true,true,false,false,false] 3 4 10 11 1 3 56 2 8 w.heap.size (u:=.int .i64 x.now) ⟨rfl,rfl⟩ (by kernel_rfl) ⟨rfl,rfl,rfl⟩ ⟨rfl,rfl,rfl⟩ rfl (show 10<68 by decide) (fun w1=>by go_simp) (fun w1 hk=>by obtain ⟨-,-,-,-,-,-,-,-,h98⟩:=cellsP9 (Zab Np hk);go_simp) hWd (fun _ _ _ d _ h=>by cases d <;> exact h) ?_
 refine Zbb (by simp only [Act.put,pkA,pkB,pkC];rfl) ?_
 refine Zia 68 W.heap.size [2,5] 6 6 1000 1000 3 4 (fun m=>if m=0 then 9 else 12) (fun g=>.pointer (some ⟨g,0,none⟩)) (fun g=>.pointer (some ⟨g,0,none⟩)) (.cells #[.int .i64 0,.int .i64 0,.int .i64 0,.slice none 0 0,.slice none 0 0,.slice none 0 0,.slice none 0 0,.slice none 0 0,.int .i64 0,.slice none 0 0,.slice none 0 0] 56) (.cells #[.int .i64 0,.int .i64 0,.int .i64 0,.slice none 0 0,.slice none 0 0,.slice none 0 0,.slice none 0 0,.slice none 0 0,.int .i64 0,.slice none 0 0,.slice none 0 0] 56) (fun m b1 b2=>#[true,true,decide (1≤m),true,true,decide (2≤m),b1,false]) 1 (fun m a wx T=>a.tmps.size=68∧Sl [(1,.pointer (some ⟨w.heap.size,0,none⟩)),(2,.pointer (some ⟨w.heap.size+1,0,none⟩)),(8,.agg #[.int .i64 x.plan.nodes,.int .i64 x.plan.secret,.int .i64 x.plan.fuel,.slice A1 x.plan.cells.length c1,.slice A2 x.plan.ways.length c2,.slice A3 x.plan.slots.length c3,.slice A4 x.plan.turns.length c4]),(11,.int .i64 x.now)] a∧Below W.heap.size W wx∧(∀ k,T k→W.heap.size≤k)∧(1≤m→∃ P1 M1 q1 P2 M2 q2 P3 M3 q3 P4 M4 q4,a.eval (.tmp 9)=.agg #[.int .i64 x.plan.nodes,.int .i64 x.plan.secret,.int .i64 x.plan.fuel,.slice P1 M1 q1,.slice P2 M2 q2,.slice P3 M3 q3,.slice P4 M4 q4]∧Own kPln wx T x.plan [.int .i64 x.plan.nodes,.int .i64 x.plan.secret,.int .i64 x.plan.fuel,.slice P1 M1 q1,.slice P2 M2 q2,.slice P3 M3 q3,.slice P4 M4 q4]∧(2≤m→a.eval (.tmp 12)=.agg #[.int .i64 x.plan.nodes,.int .i64 x.plan.secret,.int .i64 x.plan.fuel,.slice P1 M1 q1,.slice P2 M2 q2,.slice P3 M3 q3,.slice P4 M4 q4,.slice none 0 0,.int .i64 x.now,.slice none 0 0,.slice none 0 0]))) true false (by kernel_rfl) ?hsz ?ht ?hlo ?hS _ ?st1 ?st2 ?hn1 ?hn2 ?hc ?hend 3 0 false true (fun _=>undef) _ _ (fun _=>False) 0 0 rfl (by decide) rfl (fun h=>by cases h) (fun _=>rfl) (fun h=>by simp at h) (fun h=>by simp at h) ?hin (fun _ h=>h.elim) (fun _ h=>by cases h) (fun h=>by cases h) (fun _ h=>by cases h)
 case hsz=>exact fun m a wx T h=>h.1
 case ht=>exact ⟨by decide,by decide,by decide,fun m=>by split <;> decide⟩
 case hlo=>exact fun m a wx T h=>h.2.2.1.size
 case hS=>exact fun m a wx T h=>h.2.2.1
 case st1 =>
  rintro m a wx T ⟨h1,h2,h3,h4,h5⟩ hT
  have hb9:Below wx.heap.size wx (wx.alloc (.cells #[.int .i64 0,.int .i64 0,.int .i64 0,.slice none 0 0,.slice none 0 0,.slice none 0 0,.slice none 0 0,.slice none 0 0,.int .i64 0,.slice none 0 0,.slice none 0 0] 56)):=(brf_).alloc nlr_ _
  refine ⟨by rw [Zcb];exact h1,h2.put (by kernel_rfl),h3.alloc h3.size _,h4,fun e=>?_⟩
  obtain ⟨P1,M1,q1,P2,M2,q2,P3,M3,q3,P4,M4,q4,z1,z2,z3⟩:=h5 e
  exact ⟨P1,M1,q1,P2,M2,q2,P3,M3,q3,P4,M4,q4,(Zaq (by decide)).trans z1,Zbj z2 hb9,fun e=>(Zaq (by decide)).trans (z3 e)⟩
 case st2 =>
  rintro m a wx T ⟨h1,h2,h3,h4,h5⟩ hT
  have hb9:Below wx.heap.size wx (wx.alloc (.cells #[.int .i64 0,.int .i64 0,.int .i64 0,.slice none 0 0,.slice none 0 0,.slice none 0 0,.slice none 0 0,.slice none 0 0,.int .i64 0,.slice none 0 0,.slice none 0 0] 56)):=(brf_).alloc nlr_ _
  refine ⟨by rw [Zcb];exact h1,h2.put (by kernel_rfl),h3.alloc h3.size _,h4,fun e=>?_⟩
  obtain ⟨P1,M1,q1,P2,M2,q2,P3,M3,q3,P4,M4,q4,z1,z2,z3⟩:=h5 e
  exact ⟨P1,M1,q1,P2,M2,q2,P3,M3,q3,P4,M4,q4,(Zaq (by decide)).trans z1,Zbj z2 hb9,fun e=>(Zaq (by decide)).trans (z3 e)⟩
 case hn1=>exact fun _ m a wx T h=>⟨_,rfl,rfl,rfl,by unfold execOp;go_simp⟩
 case hn2=>exact fun h=>by cases h
 case hc =>
  intro m i hi a wx T g1 g2 ⟨h1,h2,h3,h4,h5⟩ hT _ _
  match m,hi with
  | 0,hi =>
   obtain rfl:=Option.some.inj hi
   refine ⟨_,rfl,rfl,rfl,fun K hK=>?_⟩
   have e8:a.eval (.tmp 8)=.agg #[.int .i64 x.plan.nodes,.int .i64 x.plan.secret,.int .i64 x.plan.fuel,.slice A1 x.plan.cells.length c1,.slice A2 x.plan.ways.length c2,.slice A3 x.plan.slots.length c3,.slice A4 x.plan.turns.length c4]:=h2 (8,_) (by simp)
   refine Zfw Tryz.func55 (by kernel_rfl) rfl #[.agg #[.int .i64 x.plan.nodes,.int .i64 x.plan.secret,.int .i64 x.plan.fuel,.slice A1 x.plan.cells.length c1,.slice A2 x.plan.ways.length c2,.slice A3 x.plan.slots.length c3,.slice A4 x.plan.turns.length c4]] (Zbn rfl) rfl rfl (by simp only [List.map_toArray,List.map_cons,List.map_nil,e8]) ?_
   have hB:=hb0.trans (h3.mono hb0.size)
   refine (Zjb x.plan _ wx (Zai hB hP) p1 p2 p3 p4 p5 p6 p7).mono ?_
   rintro e w3 ⟨⟨cs1,rfl,hO1⟩,hb8⟩
   have hO9:=hO1
   obtain ⟨v1,v2,v3,v4,fp,rfl,i1,i2,i3,i4⟩:=Zho hO1;obtain ⟨P1,M1,q1,rfl⟩:=Zba i1;obtain ⟨P2,M2,q2,rfl⟩:=Zba i2;obtain ⟨P3,M3,q3,rfl⟩:=Zba i3;obtain ⟨P4,M4,q4,rfl⟩:=Zba i4
   have hs8:=hb8.size
   have hs3:=h3.size
   refine ⟨_,rfl, ?_⟩
   refine hK _ _ (fun k=>wx.heap.size≤k∧k<w3.heap.size) ⟨by rw [Zcb];exact h1,h2.put (by kernel_rfl),h3.trans (hb8.mono h3.size),fun k hk=>by omega,fun _=>⟨P1,M1,q1,P2,M2,q2,P3,M3,q3,P4,M4,q4,Zco (by rw [h1];decide),Zbx (Zcj hO9) (fun k hk=>hk),fun e=>by omega⟩⟩ (fun k hk=>hk.2) hb8.size (fun k hk=>Or.inr (Or.inl hk.1)) (fun k hk _ _ _=>hb8.block k hk)
  | 1,hi =>
   obtain rfl:=Option.some.inj hi
   obtain ⟨P1,M1,q1,P2,M2,q2,P3,M3,q3,P4,M4,q4,z1,z2,z3⟩:=h5 (by omega)
   refine ⟨_,rfl,rfl,rfl,fun K hK=>?_⟩
   have e11:a.eval (.tmp 11)=.int .i64 x.now:=h2 (11,_) (by simp)
   refine Zgd (t:=12) (v:=.agg #[.int .i64 x.plan.nodes,.int .i64 x.plan.secret,.int .i64 x.plan.fuel,.slice P1 M1 q1,.slice P2 M2 q2,.slice P3 M3 q3,.slice P4 M4 q4,.slice none 0 0,.int .i64 x.now,.slice none 0 0,.slice none 0 0]) (w1:=wx) rfl rfl (by revert z1 e11;unfold execOp;generalize a.eval=ρ;intro z1 e11;go_simp <;> rfl) ?_
   exact hK _ _ T ⟨by rw [Zcb];exact h1,h2.put (by kernel_rfl),h3,h4,fun _=>⟨P1,M1,q1,P2,M2,q2,P3,M3,q3,P4,M4,q4,(Zaq (by decide)).trans z1,z2,fun _=>Zco (by rw [h1];decide)⟩⟩ hT nlr_ (fun k hk=>Or.inl hk) (fun k _ _ _ _=>rfl)
 case hin=>exact ⟨rfl,fun p hp=>by simp only [List.mem_cons,List.not_mem_nil,or_false] at hp;rcases hp with rfl | rfl | rfl | rfl <;> rfl,hWd,fun _ h=>h.elim,fun e=>by omega⟩
 case hend =>
  intro cv g9 g2 a wx T ha ⟨h1,h2,h3,h4,h5⟩ hT hn9 _ _
  obtain ⟨P1,M1,q1,P2,M2,q2,P3,M3,q3,P4,M4,q4,z1,z2,z3⟩:=h5 (by decide)
  replace z3:=z3 (by decide)
  obtain ⟨k1,k2,k3,k4,k5⟩:=hn9 rfl (by decide)
  generalize g9=g at *
  refine Znl (i:=7) (N:=none) #[true,true,true,true,true,true,true,true] rfl rfl (by kernel_rfl) (by decide) (fun K hK=>?_)
  refine Zgx rfl rfl 56 (.tmp 3) (.tmp 12) rfl g #[.int .i64 x.plan.nodes,.int .i64 x.plan.secret,.int .i64 x.plan.fuel,.slice P1 M1 q1,.slice P2 M2 q2,.slice P3 M3 q3,.slice P4 M4 q4,.slice none 0 0,.int .i64 x.now,.slice none 0 0,.slice none 0 0] k1 z3 56 #[.int .i64 0,.int .i64 0,.int .i64 0,.slice none 0 0,.slice none 0 0,.slice none 0 0,.slice none 0 0,.slice none 0 0,.int .i64 0,.slice none 0 0,.slice none 0 0] k2 (by kernel_rfl) rfl (by simp [Value.oneCell']) (fun w9 Ng hk=>?_)
  refine hK.out _ _ ?_
  clear hK K
  refine Zgw (by kernel_rfl) ?_
  subst ha
  simp only [canB,Zqg,canC,List.length_cons,List.length_nil,if_true,if_false,Bool.false_eq_true,Nat.zero_add,Nat.reduceAdd,Nat.reduceEqDiff]
  simp only [Act.put,pkA,pkB,pkC]
  generalize cv 0=vz0;generalize cv 1=vz1
  have hWs:=h3.size
  have hgg:w.heap.size+1<g:=by omega
  have hw9:Below W.heap.size W w9:=h3.trans ⟨hk.os,hk.tape,hk.output,hk.size,fun k hk1=>hk.block k (by omega) (fun e=>by omega)⟩
  have HB:=hb0.trans (hw9.mono hb0.size)
  replace Nr:=Zab Nr hw9
  replace Np:=Zab Np hw9
  have HN:P8 w9 (fun k=>w.heap.size≤k∧k≠w.heap.size∧k≠w.heap.size+1∧k≠g) (fun _=>0) (pOwn kPln x.plan [.int .i64 x.plan.nodes,.int .i64 x.plan.secret,.int .i64 x.plan.fuel,.slice P1 M1 q1,.slice P2 M2 q2,.slice P3 M3 q3,.slice P4 M4 q4]) (pRw kNod 98 (.slice none 0 0) ([])) (pRw Zck 101 (.slice none 0 0) ([])) (pRw Zbv 117 (.slice none 0 0) ([])) Zbw Zbw Zbw Zbw:=⟨Zbx (Zdf z2 (fun k hk1 hl=>hk.block k hl (fun e=>k3 (by rw [← e];exact hk1)))) (fun k hk1=>⟨by have:=h4 k hk1;exact ⟨by omega,by omega,by omega,fun e=>k3 (by rw [← e];exact hk1)⟩,rfl⟩),Zbq _ _ _ _,Zbq _ _ _ _,Zbq _ _ _ _,trivial,trivial,trivial,trivial,Zxn _ _ _,pcRw _ _ _ _,pcRw _ _ _ _,pcRw _ _ _ _,Zet,Zet,Zet,Zet⟩
  clear h1 h2 h4 h5 hT hn9 z1 z2 z3 k1 k2 k3 k4 k5 hk hw9 hWd hWs h3
  go_wp2
  go_loopw [4] (fun i wr=>∃ (k:Nat) (u1:Value) (f:Nat→Nat),k≤x.nodes.length∧i=.int .i64 k∧wr.heap[g]? = some (.cells #[.int .i64 x.plan.nodes,.int .i64 x.plan.secret,.int .i64 x.plan.fuel,.slice P1 M1 q1,.slice P2 M2 q2,.slice P3 M3 q3,.slice P4 M4 q4,u1,.int .i64 x.now,.slice none 0 0,.slice none 0 0] 56 (0,0))∧wr.heap[w.heap.size+1]? = some (.cells #[.int .i64 0,.int .i64 0,.int .i64 0,.slice none 0 0,.slice none 0 0,.slice none 0 0,.slice none 0 0,.slice none 0 0,.int .i64 0,.slice none 0 0,.slice none 0 0] 56 (0,0))∧wr.heap[w.heap.size]? = some (.cells #[.int .i64 x.plan.nodes,.int .i64 x.plan.secret,.int .i64 x.plan.fuel,.slice A1 x.plan.cells.length c1,.slice A2 x.plan.ways.length c2,.slice A3 x.plan.slots.length c3,.slice A4 x.plan.turns.length c4,.slice A5 x.nodes.length c5,.int .i64 x.now,.slice A6 x.log.length c6,.slice A7 x.seen.length c7] 56 (0,0))∧P8 wr (fun k=>w.heap.size≤k∧k≠w.heap.size∧k≠w.heap.size+1∧k≠g) f (pOwn kPln x.plan [.int .i64 x.plan.nodes,.int .i64 x.plan.secret,.int .i64 x.plan.fuel,.slice P1 M1 q1,.slice P2 M2 q2,.slice P3 M3 q3,.slice P4 M4 q4]) (pRw kNod 98 (u1) (x.nodes.take k)) (pRw Zck 101 (.slice none 0 0) ([])) (pRw Zbv 117 (.slice none 0 0) ([])) Zbw Zbw Zbw Zbw∧Below w.heap.size w wr) (fun i _=>x.nodes.length-(intOf i).toNat)
  case atStart=>exact ⟨0,_,_,Nat.zero_le _,rfl,Ng,Nr,Np,HN,HB⟩
  case round =>
   clear Ng Nr Np HN HB
   obtain ⟨k,u1,f,hk,rfl,Ng,Nr,Np,HN,HB⟩:=hrel
   have hgl:=Zao Ng
   obtain ⟨-,-,-,-,-,-,-,p9_⟩:=cellsP8 Np
   by_cases hlt:k<x.nodes.length
   ·obtain ⟨z,hz9⟩:=Zar x.nodes hlt
    have hsz:=hn2 k z hz9
    obtain ⟨ad,cs0,eA,hk0,h0,hi⟩:=Zce r5 hz9
    have hkk:=hk0
    obtain ⟨B1,d1,B2,d2,B3,d3,B4,d4,B5,d5,B6,d6,B7,d7,rfl,-,-,-,-,-,-,-,-,-,-,-,-,-,-⟩:=Zxl hkk
    have z0:w.cell? (ad.add (k*10))=some (.bool z.up):=h0 _ rfl
    have z1:w.cell? ⟨(ad.add (k*10)).block,(ad.add (k*10)).off+1,none⟩=some (.int .i64 z.boot):=hi 1 _ (by decide) rfl
    have z2:w.cell? ⟨(ad.add (k*10)).block,(ad.add (k*10)).off+2,none⟩=some (.int .i64 z.hello):=hi 2 _ (by decide) rfl
    have z3:w.cell? ⟨(ad.add (k*10)).block,(ad.add (k*10)).off+3,none⟩=some (.slice B1 z.cells.length d1):=hi 3 _ (by decide) rfl
    have z4:w.cell? ⟨(ad.add (k*10)).block,(ad.add (k*10)).off+4,none⟩=some (.slice B2 z.out.length d2):=hi 4 _ (by decide) rfl
    have z5:w.cell? ⟨(ad.add (k*10)).block,(ad.add (k*10)).off+5,none⟩=some (.slice B3 z.inn.length d3):=hi 5 _ (by decide) rfl
    have z6:w.cell? ⟨(ad.add (k*10)).block,(ad.add (k*10)).off+6,none⟩=some (.slice B4 z.outs.length d4):=hi 6 _ (by decide) rfl
    have z7:w.cell? ⟨(ad.add (k*10)).block,(ad.add (k*10)).off+7,none⟩=some (.slice B5 z.ins.length d5):=hi 7 _ (by decide) rfl
    have z8:w.cell? ⟨(ad.add (k*10)).block,(ad.add (k*10)).off+8,none⟩=some (.slice B6 z.boots.length d6):=hi 8 _ (by decide) rfl
    have z9:w.cell? ⟨(ad.add (k*10)).block,(ad.add (k*10)).off+9,none⟩=some (.slice B7 z.seqs.length d7):=hi 9 _ (by decide) rfl
    clear h0 hi hkk
    have hsrc:=World.block_lt_of_cell? _ _ z0
    replace z0:=Zaa HB z0
    replace z1:=Zaa HB z1
    replace z2:=Zaa HB z2
    replace z3:=Zaa HB z3
    replace z4:=Zaa HB z4
    replace z5:=Zaa HB z5
    replace z6:=Zaa HB z6
    replace z7:=Zaa HB z7
    replace z8:=Zaa HB z8
    replace z9:=Zaa HB z9
    replace hk0:=Zai HB hk0
    subst eA
    clear p9_
    obtain ⟨-,-,-,-,-,-,-,p⟩:=cellsP8 Np
    go_wp2_with (fail)
    clear p
    have hgu:some g≠u1.ownBlock:=(fun e=>by have:=((Zca HN.r1) _ e.symm).1;(try dsimp only at this);omega)
    have hpu:some w.heap.size≠u1.ownBlock:=(fun e=>by have:=((Zca HN.r1) _ e.symm).1;(try dsimp only at this);omega)
    have hym:some (ad.add (k*10)).block≠u1.ownBlock:=fun e=>by have:=((Zca HN.r1) _ e.symm).1;have hh:=hsrc;(try dsimp only at this hh);omega
    refine Zcf 12 u1.ownBlock [11] (by kernel_rfl) rfl rfl ?_
    intro Wd hd hs
    have Ng_d:=Zab Ng hd
    have Nr_d:=Zab Nr hd
    have Np_d:=Zab Np hd
    have z0:=Zaa hd z0
    have z1:=Zaa hd z1
    have z2:=Zaa hd z2
    have z3:=Zaa hd z3
    have z4:=Zaa hd z4
    have z5:=Zaa hd z5
    have z6:=Zaa hd z6
    have z7:=Zaa hd z7
    have z8:=Zaa hd z8
    have z9:=Zaa hd z9
    have HNd:=HN.step (w1:=Wd) (fun k _ hl=>hd.block k hl)
    have HB_d:=HB.trans (hd.mono HB.size)
    refine head2 12 0 20 21 3 53 56 1 7 g (u:=u1) ⟨rfl,rfl⟩ (by kernel_rfl) ⟨rfl,rfl,rfl⟩ ⟨rfl,rfl,rfl⟩ rfl (show 20<68 by decide) (fun w1=>by go_simp) (fun w1 h=>by go_simp) (fun w1 hk=>hk.cell Ng_d hgu rfl) (Zbc.refl _ _) (fun _ _ _ d _ h=>by cases d <;> exact h) ?_
    refine Zbb (by simp only [Act.put,pkA,pkB,pkC];rfl) ?_
    refine head2 12 2 22 23 1 53 56 1 7 w.heap.size (u:=.slice (some ad) x.nodes.length c5) ⟨rfl,rfl⟩ (by kernel_rfl) ⟨rfl,rfl,rfl⟩ ⟨rfl,rfl,rfl⟩ rfl (show 22<68 by decide) (fun w1=>by go_simp) (fun w1 h=>by go_simp) (fun w1 hk=>hk.cell Np_d hpu rfl) (Zbc.refl _ _) (fun _ _ _ d _ h=>by cases d <;> exact h) ?_
    refine Zbb (by simp only [Act.put,pkA,pkB,pkC];rfl) ?_
    refine mv1 12 4 24 4 rfl (by kernel_rfl) ⟨rfl,rfl,rfl⟩ rfl (fun _ _ _ d _ h=>by cases d <;> exact h) ?_
    refine Zbb (by simp only [Act.put,pkA,pkB,pkC];rfl) ?_
    refine Zap (i:=5) (N:=some 25) (v:=.pointer (some (ad.add (k*10)))) (upB 12 6) rfl rfl (by kernel_rfl) (fun _ _ _ h=>h) (Or.inl ⟨by rfl,fun w1=>by go_simp⟩) (by simp only [Act.put,pkA,pkB,pkC];rfl) ?_
    refine Zbz (i:=6) (N:=some 26) (v:=.agg #[.bool z.up,.int .i64 z.boot,.int .i64 z.hello,.slice B1 z.cells.length d1,.slice B2 z.out.length d2,.slice B3 z.inn.length d3,.slice B4 z.outs.length d4,.slice B5 z.ins.length d5,.slice B6 z.boots.length d6,.slice B7 z.seqs.length d7]) (upB 12 7) rfl rfl (by kernel_rfl) (fun _ _ _ h=>h) (Or.inl ⟨by rfl,fun w1 hk=>by have y0:=hk.at_ z0 hym;have y1:=hk.at_ z1 hym;have y2:=hk.at_ z2 hym;have y3:=hk.at_ z3 hym;have y4:=hk.at_ z4 hym;have y5:=hk.at_ z5 hym;have y6:=hk.at_ z6 hym;have y7:=hk.at_ z7 hym;have y8:=hk.at_ z8 hym;have y9:=hk.at_ z9 hym;go_simp⟩) (Zbc.refl _ _) (by simp only [Act.put,pkA,pkB,pkC];rfl) ?_
    have hkd:=Zai hd hk0
    refine Zdt 12 7 27 (fun v w1=>∃ cs:List Value,v=.agg cs.toArray∧Own kNod w1 (fun k=>Wd.heap.size≤k) z cs) rfl (by decide) (by kernel_rfl) rfl rfl rfl Tryz.func97 (by kernel_rfl) rfl #[.agg #[.bool z.up,.int .i64 z.boot,.int .i64 z.hello,.slice B1 z.cells.length d1,.slice B2 z.out.length d2,.slice B3 z.inn.length d3,.slice B4 z.outs.length d4,.slice B5 z.ins.length d5,.slice B6 z.boots.length d6,.slice B7 z.seqs.length d7]] (by (try simp only [List.map_toArray,List.map_cons,List.map_nil]);first | done | rfl) ((Zpm z _ Wd hkd hsz).mono (fun e w9 h=>⟨match h.1 with | ⟨cs,he,ho⟩=>⟨_,he,cs,rfl,ho⟩,h.2⟩)) (Zbc.refl _ _) nlr_ ?_
    rintro v w1 ⟨cs1,rfl,hp⟩ hb1 hk1
    have hp9:=hp
    obtain ⟨u1_,u2_,u3_,u4_,u5_,u6_,u7_,f9,rfl,-,-,-,-,-,-,-⟩:=Zgc hp9
    refine Zbb (by simp only [Act.put,pkA,pkB,pkC];rfl) ?_
    have hsz1:=hb1.size
    have HB_1:=HB_d.trans (hb1.mono HB_d.size)
    refine Zcl kNod (w0:=w) 12 8 21 27 28 29 30 3 53 98 56 1 7 68 g (u:=u1) (xs:=x.nodes.take k) (fun k=>(fun k=>w.heap.size≤k∧k≠w.heap.size∧k≠w.heap.size+1∧k≠g) k∧((k<Wd.heap.size∧f k=1)∨Wd.heap.size≤k)) (fun k=>Wd.heap.size≤k) ⟨rfl,rfl,rfl,rfl⟩ (by kernel_rfl) ⟨rfl,rfl,rfl⟩ ⟨rfl,rfl,rfl⟩ ⟨rfl,rfl,rfl⟩ ⟨rfl,rfl,rfl⟩ rfl (by decide) rfl rfl (fun w1=>by go_simp <;> (constructor <;> rfl)) (fun w1=>by go_simp) Tryz.underlying53 iNod rfl (by decide) (by omega) (fun _=>by go_simp) hp ?aO ?aT ?aS ?aF HB_1 ?aL hk1 hb1.size Ng_d (show 7<11 by decide) hgu (fun _ _ _ d _ h=>by cases d <;> exact h) ?_
    (case aO=>exact Zae (Zaj (Zaf HNd.r1) hb1) (fun k hk=>by (try dsimp only at hk ⊢);omega))
    (case aT=>exact fun k hk=>by (try dsimp only at hk ⊢);omega)
    (case aS=>exact fun k hk=>by (try dsimp only at hk ⊢);omega)
    (case aF=>exact fun k hk=>by (try dsimp only at hk ⊢);omega)
    (case aL=>simp;omega)
    rintro B9 L9 d w2 vA vB-hR HB2 hgr hk2 -
    have hob:=fun q (e:u1.ownBlock=some q)=>((Zca HNd.r1) q e).1
    have HN3:=(HNd.app1 hb1 hgr (fun q e=>(hob q e).2) (pcRw _ _ _ _) hR).step (w1:=w2.setCell ⟨g,7,none⟩ (.slice B9 L9 d)) (fun b_ hk _=>Below.heap_setCell w2 ⟨g,7,none⟩ (.slice B9 L9 d) b_ (by (try dsimp only at hk ⊢);omega))
    have Ng3:=Zau ((hk2 g (Zao Ng_d) hgu).trans Ng_d) 7 (.slice B9 L9 d)
    have Nr3:=Zav (p:=⟨g,7,none⟩) ((hk2 _ (Zao Nr_d) (fun e=>by have:=(hob _ e.symm).1;(try dsimp only at this);omega)).trans Nr_d) (show w.heap.size+1≠g by omega) (.slice B9 L9 d)
    have Np3:=Zav (p:=⟨g,7,none⟩) ((hk2 _ (Zao Np_d) (fun e=>by have:=(hob _ e.symm).1;(try dsimp only at this);omega)).trans Np_d) (show w.heap.size≠g by omega) (.slice B9 L9 d)
    have HB3:=Zak (j:=7) (v:=.slice B9 L9 d) HB2 (show w.heap.size≤g by omega)
    simp only [Act.put,pkA,pkB,pkC]
    clear HN HNd HB Ng Nr Np Ng_d Nr_d Np_d hd hs hb1 hk1 hp HB_d HB_1 hk2 hgr hR z0 z1 z2 z3 z4 z5 z6 z7 z8 z9 hob HB2
    go_wp2
    refine ⟨⟨k+1,_,_,by omega,rfl,Ng3,Nr3,Np3,by rw [List.take_succ_eq_append_getElem hlt,← (List.getElem?_eq_some_iff.1 hz9).2] at *;exact HN3,HB3⟩, ?_⟩
    simp [intOf]
    omega
   ·have e:k=x.nodes.length:=by omega
    subst e
    rw [List.take_length] at HN
    go_wp2
    clear p9_
    go_loopw [5] (fun i wr=>∃ (k:Nat) (u1 u2:Value) (f:Nat→Nat),k≤x.log.length∧i=.int .i64 k∧wr.heap[g]? = some (.cells #[.int .i64 x.plan.nodes,.int .i64 x.plan.secret,.int .i64 x.plan.fuel,.slice P1 M1 q1,.slice P2 M2 q2,.slice P3 M3 q3,.slice P4 M4 q4,u1,.int .i64 x.now,u2,.slice none 0 0] 56 (0,0))∧wr.heap[w.heap.size+1]? = some (.cells #[.int .i64 0,.int .i64 0,.int .i64 0,.slice none 0 0,.slice none 0 0,.slice none 0 0,.slice none 0 0,.slice none 0 0,.int .i64 0,.slice none 0 0,.slice none 0 0] 56 (0,0))∧wr.heap[w.heap.size]? = some (.cells #[.int .i64 x.plan.nodes,.int .i64 x.plan.secret,.int .i64 x.plan.fuel,.slice A1 x.plan.cells.length c1,.slice A2 x.plan.ways.length c2,.slice A3 x.plan.slots.length c3,.slice A4 x.plan.turns.length c4,.slice A5 x.nodes.length c5,.int .i64 x.now,.slice A6 x.log.length c6,.slice A7 x.seen.length c7] 56 (0,0))∧P8 wr (fun k=>w.heap.size≤k∧k≠w.heap.size∧k≠w.heap.size+1∧k≠g) f (pOwn kPln x.plan [.int .i64 x.plan.nodes,.int .i64 x.plan.secret,.int .i64 x.plan.fuel,.slice P1 M1 q1,.slice P2 M2 q2,.slice P3 M3 q3,.slice P4 M4 q4]) (pRw kNod 98 (u1) (x.nodes)) (pRw Zck 101 (u2) (x.log.take k)) (pRw Zbv 117 (.slice none 0 0) ([])) Zbw Zbw Zbw Zbw∧Below w.heap.size w wr) (fun i _=>x.log.length-(intOf i).toNat)
    case atStart=>exact ⟨0,_,_,_,Nat.zero_le _,rfl,Ng,Nr,Np,HN,HB⟩
    case round =>
     clear Ng Nr Np HN HB hgl hlt hk
     obtain ⟨k,u1,u2,f,hk,rfl,Ng,Nr,Np,HN,HB⟩:=hrel
     have hgl:=Zao Ng
     obtain ⟨-,-,-,-,-,-,-,-,-,p9_⟩:=cellsP10 Np
     by_cases hlt:k<x.log.length
     ·obtain ⟨z,hz9⟩:=Zar x.log hlt
      have hsz:=hl2 k z hz9
      obtain ⟨ad,B1,d1,eA,z0,-,s1_⟩:=Zjs r6 hz9
      have s1:=Zac s1_ HB
      have hsrc:=World.block_lt_of_cell? _ _ z0
      replace z0:=Zaa HB z0
      subst eA
      clear p9_
      obtain ⟨-,-,-,-,-,-,-,-,-,p⟩:=cellsP10 Np
      go_wp2_with (fail)
      clear p
      have hgu:some g≠u2.ownBlock:=(fun e=>by have:=((Zca HN.r2) _ e.symm).1;(try dsimp only at this);omega)
      have hpu:some w.heap.size≠u2.ownBlock:=(fun e=>by have:=((Zca HN.r2) _ e.symm).1;(try dsimp only at this);omega)
      have hym:some (ad.add k).block≠u2.ownBlock:=fun e=>by have:=((Zca HN.r2) _ e.symm).1;have hh:=hsrc;(try dsimp only at this hh);omega
      refine Zcf 12 u2.ownBlock [11] (by kernel_rfl) rfl rfl ?_
      intro Wd hd hs
      have Ng_d:=Zab Ng hd
      have Nr_d:=Zab Nr hd
      have Np_d:=Zab Np hd
      have z0:=Zaa hd z0
      have HNd:=HN.step (w1:=Wd) (fun k _ hl=>hd.block k hl)
      have HB_d:=HB.trans (hd.mono HB.size)
      refine head2 12 0 38 39 3 54 56 3 9 g (u:=u2) ⟨rfl,rfl⟩ (by kernel_rfl) ⟨rfl,rfl,rfl⟩ ⟨rfl,rfl,rfl⟩ rfl (show 38<68 by decide) (fun w1=>by go_simp) (fun w1 h=>by go_simp) (fun w1 hk=>hk.cell Ng_d hgu rfl) (Zbc.refl _ _) (fun _ _ _ d _ h=>by cases d <;> exact h) ?_
      refine Zbb (by simp only [Act.put,pkA,pkB,pkC];rfl) ?_
      refine head2 12 2 40 41 1 54 56 3 9 w.heap.size (u:=.slice (some ad) x.log.length c6) ⟨rfl,rfl⟩ (by kernel_rfl) ⟨rfl,rfl,rfl⟩ ⟨rfl,rfl,rfl⟩ rfl (show 40<68 by decide) (fun w1=>by go_simp) (fun w1 h=>by go_simp) (fun w1 hk=>hk.cell Np_d hpu rfl) (Zbc.refl _ _) (fun _ _ _ d _ h=>by cases d <;> exact h) ?_
      refine Zbb (by simp only [Act.put,pkA,pkB,pkC];rfl) ?_
      refine mv1 12 4 42 5 rfl (by kernel_rfl) ⟨rfl,rfl,rfl⟩ rfl (fun _ _ _ d _ h=>by cases d <;> exact h) ?_
      refine Zbb (by simp only [Act.put,pkA,pkB,pkC];rfl) ?_
      refine Zap (i:=5) (N:=some 43) (v:=.pointer (some (ad.add k))) (upB 12 6) rfl rfl (by kernel_rfl) (fun _ _ _ h=>h) (Or.inl ⟨by rfl,fun w1=>by go_simp⟩) (by simp only [Act.put,pkA,pkB,pkC];rfl) ?_
      refine Zbz (i:=6) (N:=some 44) (v:=.slice B1 z.length d1) (upB 12 7) rfl rfl (by kernel_rfl) (fun _ _ _ h=>h) (Or.inl ⟨by rfl,fun w1 hk=>by have y0:=hk.at_ z0 hym;go_simp⟩) (Zbc.refl _ _) (by simp only [Act.put,pkA,pkB,pkC];rfl) ?_
      have s1d:=Zac (Zac s1 (brf_)) hd
      refine Zdt 12 7 45 (fun v w1=>Rw Zdh 5 w1 (fun k=>Wd.heap.size≤k) v z) rfl (by decide) (by kernel_rfl) rfl rfl rfl Tryz.func98 (by kernel_rfl) rfl #[.slice B1 z.length d1] (by (try simp only [List.map_toArray,List.map_cons,List.map_nil]);first | done | rfl) ((Zfr B1 d1 z Wd s1d hsz).mono (fun e w9 h=>⟨match h.1 with | ⟨v,he,ho⟩=>⟨v,he,ho⟩,h.2⟩)) (Zbc.refl _ _) nlr_ ?_
      rintro v w1 hv hb1 hk1
      obtain ⟨Bv,Lv,dv,rfl⟩:=Zba hv
      have hp:=Zqc hv
      refine Zbb (by simp only [Act.put,pkA,pkB,pkC];rfl) ?_
      have hsz1:=hb1.size
      have HB_1:=HB_d.trans (hb1.mono HB_d.size)
      refine Zcl Zck (w0:=w) 12 8 39 45 46 47 48 3 54 101 56 3 9 68 g (u:=u2) (xs:=x.log.take k) (fun k=>(fun k=>w.heap.size≤k∧k≠w.heap.size∧k≠w.heap.size+1∧k≠g) k∧((k<Wd.heap.size∧f k=2)∨Wd.heap.size≤k)) (fun k=>Wd.heap.size≤k) ⟨rfl,rfl,rfl,rfl⟩ (by kernel_rfl) ⟨rfl,rfl,rfl⟩ ⟨rfl,rfl,rfl⟩ ⟨rfl,rfl,rfl⟩ ⟨rfl,rfl,rfl⟩ rfl (by decide) rfl rfl (fun w1=>by go_simp <;> (constructor <;> rfl)) (fun w1=>by go_simp) Tryz.underlying54 Zxa rfl (by decide) (by omega) (fun _=>by go_simp) hp ?aO ?aT ?aS ?aF HB_1 ?aL hk1 hb1.size Ng_d (show 9<11 by decide) hgu (fun _ _ _ d _ h=>by cases d <;> exact h) ?_
      (case aO=>exact Zae (Zaj (Zaf HNd.r2) hb1) (fun k hk=>by (try dsimp only at hk ⊢);omega))
      (case aT=>exact fun k hk=>by (try dsimp only at hk ⊢);omega)
      (case aS=>exact fun k hk=>by (try dsimp only at hk ⊢);omega)
      (case aF=>exact fun k hk=>by (try dsimp only at hk ⊢);omega)
      (case aL=>simp;omega)
      rintro B9 L9 d w2 vA vB-hR HB2 hgr hk2 -
      have hob:=fun q (e:u2.ownBlock=some q)=>((Zca HNd.r2) q e).1
      have HN3:=(HNd.app2 hb1 hgr (fun q e=>(hob q e).2) (pcRw _ _ _ _) hR).step (w1:=w2.setCell ⟨g,9,none⟩ (.slice B9 L9 d)) (fun b_ hk _=>Below.heap_setCell w2 ⟨g,9,none⟩ (.slice B9 L9 d) b_ (by (try dsimp only at hk ⊢);omega))
      have Ng3:=Zau ((hk2 g (Zao Ng_d) hgu).trans Ng_d) 9 (.slice B9 L9 d)
      have Nr3:=Zav (p:=⟨g,9,none⟩) ((hk2 _ (Zao Nr_d) (fun e=>by have:=(hob _ e.symm).1;(try dsimp only at this);omega)).trans Nr_d) (show w.heap.size+1≠g by omega) (.slice B9 L9 d)
      have Np3:=Zav (p:=⟨g,9,none⟩) ((hk2 _ (Zao Np_d) (fun e=>by have:=(hob _ e.symm).1;(try dsimp only at this);omega)).trans Np_d) (show w.heap.size≠g by omega) (.slice B9 L9 d)
      have HB3:=Zak (j:=9) (v:=.slice B9 L9 d) HB2 (show w.heap.size≤g by omega)
      simp only [Act.put,pkA,pkB,pkC]
      clear HN HNd HB Ng Nr Np Ng_d Nr_d Np_d hd hs hb1 hk1 hp HB_d HB_1 hk2 hgr hR z0 hob HB2
      go_wp2
      refine ⟨⟨k+1,_,_,_,by omega,rfl,Ng3,Nr3,Np3,by rw [List.take_succ_eq_append_getElem hlt,← (List.getElem?_eq_some_iff.1 hz9).2] at *;exact HN3,HB3⟩, ?_⟩
      simp [intOf]
      omega
     ·have e:k=x.log.length:=by omega
      subst e
      rw [List.take_length] at HN
      go_wp2
      clear p9_
      go_loopw [6] (fun i wr=>∃ (k:Nat) (u1 u2 u3:Value) (f:Nat→Nat),k≤x.seen.length∧i=.int .i64 k∧wr.heap[g]? = some (.cells #[.int .i64 x.plan.nodes,.int .i64 x.plan.secret,.int .i64 x.plan.fuel,.slice P1 M1 q1,.slice P2 M2 q2,.slice P3 M3 q3,.slice P4 M4 q4,u1,.int .i64 x.now,u2,u3] 56 (0,0))∧wr.heap[w.heap.size+1]? = some (.cells #[.int .i64 0,.int .i64 0,.int .i64 0,.slice none 0 0,.slice none 0 0,.slice none 0 0,.slice none 0 0,.slice none 0 0,.int .i64 0,.slice none 0 0,.slice none 0 0] 56 (0,0))∧wr.heap[w.heap.size]? = some (.cells #[.int .i64 x.plan.nodes,.int .i64 x.plan.secret,.int .i64 x.plan.fuel,.slice A1 x.plan.cells.length c1,.slice A2 x.plan.ways.length c2,.slice A3 x.plan.slots.length c3,.slice A4 x.plan.turns.length c4,.slice A5 x.nodes.length c5,.int .i64 x.now,.slice A6 x.log.length c6,.slice A7 x.seen.length c7] 56 (0,0))∧P8 wr (fun k=>w.heap.size≤k∧k≠w.heap.size∧k≠w.heap.size+1∧k≠g) f (pOwn kPln x.plan [.int .i64 x.plan.nodes,.int .i64 x.plan.secret,.int .i64 x.plan.fuel,.slice P1 M1 q1,.slice P2 M2 q2,.slice P3 M3 q3,.slice P4 M4 q4]) (pRw kNod 98 (u1) (x.nodes)) (pRw Zck 101 (u2) (x.log)) (pRw Zbv 117 (u3) (x.seen.take k)) Zbw Zbw Zbw Zbw∧Below w.heap.size w wr) (fun i _=>x.seen.length-(intOf i).toNat)
      case atStart=>exact ⟨0,_,_,_,_,Nat.zero_le _,rfl,Ng,Nr,Np,HN,HB⟩
      case round =>
       clear Ng Nr Np HN HB hgl hlt hk
       obtain ⟨k,u1,u2,u3,f,hk,rfl,Ng,Nr,Np,HN,HB⟩:=hrel
       have hgl:=Zao Ng
       obtain ⟨-,-,-,-,-,-,-,-,-,-,p9_⟩:=cellsP11 Np
       by_cases hlt:k<x.seen.length
       ·obtain ⟨z,hz9⟩:=Zar x.seen hlt
        have hsz:=hs2 k z hz9
        obtain ⟨ad,B1,d1,eA,z0,-,s1_⟩:=Zhd r7 hz9
        have s1:=Zac s1_ HB
        have hsrc:=World.block_lt_of_cell? _ _ z0
        replace z0:=Zaa HB z0
        subst eA
        clear p9_
        obtain ⟨-,-,-,-,-,-,-,-,-,-,p⟩:=cellsP11 Np
        go_wp2_with (fail)
        clear p
        have hgu:some g≠u3.ownBlock:=(fun e=>by have:=((Zca HN.r3) _ e.symm).1;(try dsimp only at this);omega)
        have hpu:some w.heap.size≠u3.ownBlock:=(fun e=>by have:=((Zca HN.r3) _ e.symm).1;(try dsimp only at this);omega)
        have hym:some (ad.add k).block≠u3.ownBlock:=fun e=>by have:=((Zca HN.r3) _ e.symm).1;have hh:=hsrc;(try dsimp only at this hh);omega
        refine Zcf 12 u3.ownBlock [11] (by kernel_rfl) rfl rfl ?_
        intro Wd hd hs
        have Ng_d:=Zab Ng hd
        have Nr_d:=Zab Nr hd
        have Np_d:=Zab Np hd
        have z0:=Zaa hd z0
        have HNd:=HN.step (w1:=Wd) (fun k _ hl=>hd.block k hl)
        have HB_d:=HB.trans (hd.mono HB.size)
        refine head2 12 0 56 57 3 38 56 4 10 g (u:=u3) ⟨rfl,rfl⟩ (by kernel_rfl) ⟨rfl,rfl,rfl⟩ ⟨rfl,rfl,rfl⟩ rfl (show 56<68 by decide) (fun w1=>by go_simp) (fun w1 h=>by go_simp) (fun w1 hk=>hk.cell Ng_d hgu rfl) (Zbc.refl _ _) (fun _ _ _ d _ h=>by cases d <;> exact h) ?_
        refine Zbb (by simp only [Act.put,pkA,pkB,pkC];rfl) ?_
        refine head2 12 2 58 59 1 38 56 4 10 w.heap.size (u:=.slice (some ad) x.seen.length c7) ⟨rfl,rfl⟩ (by kernel_rfl) ⟨rfl,rfl,rfl⟩ ⟨rfl,rfl,rfl⟩ rfl (show 58<68 by decide) (fun w1=>by go_simp) (fun w1 h=>by go_simp) (fun w1 hk=>hk.cell Np_d hpu rfl) (Zbc.refl _ _) (fun _ _ _ d _ h=>by cases d <;> exact h) ?_
        refine Zbb (by simp only [Act.put,pkA,pkB,pkC];rfl) ?_
        refine mv1 12 4 60 6 rfl (by kernel_rfl) ⟨rfl,rfl,rfl⟩ rfl (fun _ _ _ d _ h=>by cases d <;> exact h) ?_
        refine Zbb (by simp only [Act.put,pkA,pkB,pkC];rfl) ?_
        refine Zap (i:=5) (N:=some 61) (v:=.pointer (some (ad.add k))) (upB 12 6) rfl rfl (by kernel_rfl) (fun _ _ _ h=>h) (Or.inl ⟨by rfl,fun w1=>by go_simp⟩) (by simp only [Act.put,pkA,pkB,pkC];rfl) ?_
        refine Zbz (i:=6) (N:=some 62) (v:=.slice B1 z.length d1) (upB 12 7) rfl rfl (by kernel_rfl) (fun _ _ _ h=>h) (Or.inl ⟨by rfl,fun w1 hk=>by have y0:=hk.at_ z0 hym;go_simp⟩) (Zbc.refl _ _) (by simp only [Act.put,pkA,pkB,pkC];rfl) ?_
        have s1d:=Zac (Zac s1 (brf_)) hd
        refine Zdt 12 7 63 (fun v w1=>Rw Zes 176 w1 (fun k=>Wd.heap.size≤k) v z) rfl (by decide) (by kernel_rfl) rfl rfl rfl Tryz.func99 (by kernel_rfl) rfl #[.slice B1 z.length d1] (by (try simp only [List.map_toArray,List.map_cons,List.map_nil]);first | done | rfl) ((Zmp B1 d1 z Wd s1d hsz).mono (fun e w9 h=>⟨match h.1 with | ⟨v,he,ho⟩=>⟨v,he,ho⟩,h.2⟩)) (Zbc.refl _ _) nlr_ ?_
        rintro v w1 hv hb1 hk1
        obtain ⟨Bv,Lv,dv,rfl⟩:=Zba hv
        have hp:=Zno hv
        refine Zbb (by simp only [Act.put,pkA,pkB,pkC];rfl) ?_
        have hsz1:=hb1.size
        have HB_1:=HB_d.trans (hb1.mono HB_d.size)
        refine Zcl Zbv (w0:=w) 12 8 57 63 64 65 66 3 38 117 56 4 10 68 g (u:=u3) (xs:=x.seen.take k) (fun k=>(fun k=>w.heap.size≤k∧k≠w.heap.size∧k≠w.heap.size+1∧k≠g) k∧((k<Wd.heap.size∧f k=3)∨Wd.heap.size≤k)) (fun k=>Wd.heap.size≤k) ⟨rfl,rfl,rfl,rfl⟩ (by kernel_rfl) ⟨rfl,rfl,rfl⟩ ⟨rfl,rfl,rfl⟩ ⟨rfl,rfl,rfl⟩ ⟨rfl,rfl,rfl⟩ rfl (by decide) rfl rfl (fun w1=>by go_simp <;> (constructor <;> rfl)) (fun w1=>by go_simp) Tryz.underlying38 Ztp rfl (by decide) (by omega) (fun _=>by go_simp) hp ?aO ?aT ?aS ?aF HB_1 ?aL hk1 hb1.size Ng_d (show 10<11 by decide) hgu (fun _ _ _ d _ h=>by cases d <;> exact h) ?_
        (case aO=>exact Zae (Zaj (Zaf HNd.r3) hb1) (fun k hk=>by (try dsimp only at hk ⊢);omega))
        (case aT=>exact fun k hk=>by (try dsimp only at hk ⊢);omega)
        (case aS=>exact fun k hk=>by (try dsimp only at hk ⊢);omega)
        (case aF=>exact fun k hk=>by (try dsimp only at hk ⊢);omega)
        (case aL=>simp;omega)
        rintro B9 L9 d w2 vA vB-hR HB2 hgr hk2 -
        have hob:=fun q (e:u3.ownBlock=some q)=>((Zca HNd.r3) q e).1
        have HN3:=(HNd.app3 hb1 hgr (fun q e=>(hob q e).2) (pcRw _ _ _ _) hR).step (w1:=w2.setCell ⟨g,10,none⟩ (.slice B9 L9 d)) (fun b_ hk _=>Below.heap_setCell w2 ⟨g,10,none⟩ (.slice B9 L9 d) b_ (by (try dsimp only at hk ⊢);omega))
        have Ng3:=Zau ((hk2 g (Zao Ng_d) hgu).trans Ng_d) 10 (.slice B9 L9 d)
        have Nr3:=Zav (p:=⟨g,10,none⟩) ((hk2 _ (Zao Nr_d) (fun e=>by have:=(hob _ e.symm).1;(try dsimp only at this);omega)).trans Nr_d) (show w.heap.size+1≠g by omega) (.slice B9 L9 d)
        have Np3:=Zav (p:=⟨g,10,none⟩) ((hk2 _ (Zao Np_d) (fun e=>by have:=(hob _ e.symm).1;(try dsimp only at this);omega)).trans Np_d) (show w.heap.size≠g by omega) (.slice B9 L9 d)
        have HB3:=Zak (j:=10) (v:=.slice B9 L9 d) HB2 (show w.heap.size≤g by omega)
        simp only [Act.put,pkA,pkB,pkC]
        clear HN HNd HB Ng Nr Np Ng_d Nr_d Np_d hd hs hb1 hk1 hp HB_d HB_1 hk2 hgr hR z0 hob HB2
        go_wp2
        refine ⟨⟨k+1,_,_,_,_,by omega,rfl,Ng3,Nr3,Np3,by rw [List.take_succ_eq_append_getElem hlt,← (List.getElem?_eq_some_iff.1 hz9).2] at *;exact HN3,HB3⟩, ?_⟩
        simp [intOf]
        omega
       ·have e:k=x.seen.length:=by omega
        subst e
        rw [List.take_length] at HN
        obtain ⟨E1,L1,g1,rfl⟩:=Zba HN.r1
        obtain ⟨E2,L2,g2,rfl⟩:=Zba HN.r2
        obtain ⟨E3,L3,g3,rfl⟩:=Zba HN.r3
        go_wp2_with (refine Zen 56 3 2 67 g (w.heap.size+1) #[.int .i64 x.plan.nodes,.int .i64 x.plan.secret,.int .i64 x.plan.fuel,.slice P1 M1 q1,.slice P2 M2 q2,.slice P3 M3 q3,.slice P4 M4 q4,.slice E1 L1 g1,.int .i64 x.now,.slice E2 L2 g2,.slice E3 L3 g3] #[.int .i64 0,.int .i64 0,.int .i64 0,.slice none 0 0,.slice none 0 0,.slice none 0 0,.slice none 0 0,.slice none 0 0,.int .i64 0,.slice none 0 0,.slice none 0 0] 56 56 _ ⟨rfl,rfl,rfl⟩ ⟨rfl,rfl,rfl⟩ rfl rfl (by decide) (show 67<68 by decide) Ng Nr Tryz.underlying56 rfl (by kernel_rfl) rfl (by simp [Value.oneCell']) ?_;intro wz Nz hk9)
        refine bodyPost_ret (results_cell_row rfl _ _ (w.heap.size+1) 56 #[.int .i64 x.plan.nodes,.int .i64 x.plan.secret,.int .i64 x.plan.fuel,.slice P1 M1 q1,.slice P2 M2 q2,.slice P3 M3 q3,.slice P4 M4 q4,.slice E1 L1 g1,.int .i64 x.now,.slice E2 L2 g2,.slice E3 L3 g3] (0,0) _ rfl Nz Tryz.underlying56 rfl (by kernel_rfl)) rfl ?_
        have HF:=HN.step (w1:=wz) (fun b_ h hl=>hk9.block b_ hl (fun e=>h.2.2.1 e))
        obtain ⟨v1,v2,v3,v4,fp,ep,i1,i2,i3,i4⟩:=Zho HF.r0
        simp only [List.cons.injEq,true_and,and_true] at ep
        obtain ⟨rfl,rfl,rfl,rfl⟩:=ep
        refine ⟨⟨_,rfl,Zvy (fun k=>if f k=0 then fp k else if f k=1 then 7 else if f k=2 then 9 else 10) (Zae i1 (fun k hk=>⟨hk.1.1.1,by simp [hk.1.2,hk.2]⟩)) (Zae i2 (fun k hk=>⟨hk.1.1.1,by simp [hk.1.2,hk.2]⟩)) (Zae i3 (fun k hk=>⟨hk.1.1.1,by simp [hk.1.2,hk.2]⟩)) (Zae i4 (fun k hk=>⟨hk.1.1.1,by simp [hk.1.2,hk.2]⟩)) (Zae HF.r1 (fun k hk=>⟨hk.1.1,by simp [hk.2]⟩)) (Zae HF.r2 (fun k hk=>⟨hk.1.1,by simp [hk.2]⟩)) (Zae HF.r3 (fun k hk=>⟨hk.1.1,by simp [hk.2]⟩))⟩,HB.trans ⟨hk9.os,hk9.tape,hk9.output,hk9.size,fun b_ hb=>hk9.block b_ (by have:=HB.size;omega) (fun e=>by omega)⟩⟩
end Go.Proofs.YtaeckoinpllpnaaGreat
namespace Go.Proofs.YtaeckoinpllpnaaGreat
open Go.RowKit Go.Proofs.YtaeckoinpllpnaaGreatW.PrintWords
theorem Zga (v:Value) (xs:List Int) (k:Int) (S:Nat→Prop) (w:World) (H:Rw kInt 3 w S v xs) (h0:0≤k) (h1:k+(nL mInt xs:Nat)≤1099511627776) :
  Calls Tryz.prog 80 #[v,.int .i64 k] w fun e w'=>e=.returned (.int .i64 (k+(nL mInt xs:Nat)))∧Rw kInt 3 w' S v (mkL mInt xs k)∧Kep S w w':=by
 obtain ⟨A,c,rfl,hc,hr⟩:=Zbl H
 have hm:=Zax hr
 clear hr
 go_enter Tryz.func80,Tryz.ntmps80
 go_wp2
 go_loopw [1,5] (fun kv i wr=>∃ (j:Nat) (K:Int),j≤xs.length∧kv=.int .i64 K∧i=.int .i64 j∧Aside0 (K=k+(nL mInt (xs.take j):Nat))∧Rw kInt 3 wr S (.slice A xs.length c) (mkI mInt xs k j)∧Kep S w wr) (fun _ i _=>xs.length-(intOf i).toNat)
 case atStart=>exact ⟨0,_,Nat.zero_le _,rfl,rfl,⟨by simp [nL]⟩,by rw [Zem];exact H,Kep.refl _ _⟩
 case round =>
  obtain ⟨j,K,hj,rfl,rfl,hKa,hR,hKp⟩:=hrel
  have hK:=hKa.out
  by_cases hlt:j<xs.length
  ·obtain ⟨x,hx⟩:=Zar xs hlt
   have ht:=Zcw mInt xs j x hx
   have hle:=Zfg mInt xs (j+1)
   have hn:mInt.n x=1:=rfl
   rw [hn] at ht
   have hK0:0≤K:=by omega
   have hmax:K+(1:Nat)≤1099511627776:=by omega
   have hta:=Aside0.mk ht
   clear ht hle hn
   have hset:=Zfk mInt xs k j x hx
   rw [← hK] at hset
   clear hK
   have hset:=Aside0.mk hset
   obtain ⟨g,cap,hv⟩:=Zex hR (by rw [Zbp];omega)
   rw [Zbp] at hv
   injection hv with hA _ hcap
   subst hA
   subst hcap
   obtain ⟨T,cur,cs,hS,hSg,hg,hT,hO,hback⟩:=Zcp hR ((Zfj mInt xs k j).trans hx)
   obtain rfl:=Zwt (Zbh hO)
   have hS0:Seg wr g 3 cur (j*1) 1 [.int .i64 x]:=hS
   rw [Nat.mul_one] at hS0
   have hback0:=hback
   rw [show j*kInt.length=j from Nat.mul_one j] at hback0
   have c0_0:wr.cell? ⟨g,j,none⟩=some (.int .i64 x):=hS0.cell 0 _ rfl
   have f0_0:wr.frozen? ⟨g,j,none⟩=false:=hS0.froz _
   go_wp2
   have hSe:=(hS0.set 0 (by decide) (.int .i64 (K)))
   have hce:=((Kep.refl (fun b=>b=g∨T b) wr).set (i:=j) (.inl rfl) (.int .i64 (K)))
   have hfin:=hback0 _ _ (mInt.put x K) T hSe hce (Ztl _ _ _) (fun b h=>.inl h)
   rw [hset.out] at hfin
   have hK:=hKa.out
   have ht:=hta.out
   refine ⟨⟨j+1,_,by omega,rfl,rfl,⟨by omega⟩,hfin,hKp.trans hce (fun b _ h=>h.elim (fun e=>e▸hSg) (fun h=>(hT b h).1))⟩, ?_⟩
   simp [intOf]
   omega
  ·have e:j=xs.length:=by omega
   subst e
   rw [List.take_length] at hK
   rw [Zfi] at hR
   go_wp2
   go_ret
   exact ⟨by rw [hK];rfl,hR,hKp⟩
theorem Zfu (v:Value) (xs:List Int) (k:Int) (S:Nat→Prop) (w:World) (H:Rw Zdh 5 w S v xs) (h0:0≤k) (h1:k+(nL Zer xs:Nat)≤1099511627776) :
  Calls Tryz.prog 81 #[v,.int .i64 k] w fun e w'=>e=.returned (.int .i64 (k+(nL Zer xs:Nat)))∧Rw Zdh 5 w' S v (mkL Zer xs k)∧Kep S w w':=by
 obtain ⟨A,c,rfl,hc,hr⟩:=Zbl H
 have hm:=Zax hr
 clear hr
 go_enter Tryz.func81,Tryz.ntmps81
 go_wp2
 go_loopw [1,5] (fun kv i wr=>∃ (j:Nat) (K:Int),j≤xs.length∧kv=.int .i64 K∧i=.int .i64 j∧Aside0 (K=k+(nL Zer (xs.take j):Nat))∧Rw Zdh 5 wr S (.slice A xs.length c) (mkI Zer xs k j)∧Kep S w wr) (fun _ i _=>xs.length-(intOf i).toNat)
 case atStart=>exact ⟨0,_,Nat.zero_le _,rfl,rfl,⟨by simp [nL]⟩,by rw [Zem];exact H,Kep.refl _ _⟩
 case round =>
  obtain ⟨j,K,hj,rfl,rfl,hKa,hR,hKp⟩:=hrel
  have hK:=hKa.out
  by_cases hlt:j<xs.length
  ·obtain ⟨x,hx⟩:=Zar xs hlt
   have ht:=Zcw Zer xs j x hx
   have hle:=Zfg Zer xs (j+1)
   have hn:Zer.n x=1:=rfl
   rw [hn] at ht
   have hK0:0≤K:=by omega
   have hmax:K+(1:Nat)≤1099511627776:=by omega
   have hta:=Aside0.mk ht
   clear ht hle hn
   have hset:=Zfk Zer xs k j x hx
   rw [← hK] at hset
   clear hK
   have hset:=Aside0.mk hset
   obtain ⟨g,cap,hv⟩:=Zex hR (by rw [Zbp];omega)
   rw [Zbp] at hv
   injection hv with hA _ hcap
   subst hA
   subst hcap
   obtain ⟨T,cur,cs,hS,hSg,hg,hT,hO,hback⟩:=Zcp hR ((Zfj Zer xs k j).trans hx)
   obtain rfl:=Zvp (Zbh hO)
   have hS0:Seg wr g 5 cur (j*1) 1 [.int .u8 x]:=hS
   rw [Nat.mul_one] at hS0
   have hback0:=hback
   rw [show j*Zdh.length=j from Nat.mul_one j] at hback0
   have c0_0:wr.cell? ⟨g,j,none⟩=some (.int .u8 x):=hS0.cell 0 _ rfl
   have f0_0:wr.frozen? ⟨g,j,none⟩=false:=hS0.froz _
   go_wp2
   have hSe:=(hS0.set 0 (by decide) (.int .u8 ((K) % 256)))
   have hce:=((Kep.refl (fun b=>b=g∨T b) wr).set (i:=j) (.inl rfl) (.int .u8 ((K) % 256)))
   have hfin:=hback0 _ _ (Zer.put x K) T hSe hce (Zvq _ _ _) (fun b h=>.inl h)
   rw [hset.out] at hfin
   have hK:=hKa.out
   have ht:=hta.out
   refine ⟨⟨j+1,_,by omega,rfl,rfl,⟨by omega⟩,hfin,hKp.trans hce (fun b _ h=>h.elim (fun e=>e▸hSg) (fun h=>(hT b h).1))⟩, ?_⟩
   simp [intOf]
   omega
  ·have e:j=xs.length:=by omega
   subst e
   rw [List.take_length] at hK
   rw [Zfi] at hR
   go_wp2
   go_ret
   exact ⟨by rw [hK];rfl,hR,hKp⟩
theorem Zmq (v:Value) (xs:List Bool) (k:Int) (S:Nat→Prop) (w:World) (H:Rw Zgk 4 w S v xs) (h0:0≤k) (h1:k+(nL Zdz xs:Nat)≤1099511627776) :
  Calls Tryz.prog 38 #[v,.int .i64 k] w fun e w'=>e=.returned (.int .i64 (k+(nL Zdz xs:Nat)))∧Rw Zgk 4 w' S v (mkL Zdz xs k)∧Kep S w w':=by
 obtain ⟨A,c,rfl,hc,hr⟩:=Zbl H
 have hm:=Zax hr
 clear hr
 go_enter Tryz.func38,Tryz.ntmps38
 go_wp2
 go_loopw [1,5] (fun kv i wr=>∃ (j:Nat) (K:Int),j≤xs.length∧kv=.int .i64 K∧i=.int .i64 j∧Aside0 (K=k+(nL Zdz (xs.take j):Nat))∧Rw Zgk 4 wr S (.slice A xs.length c) (mkI Zdz xs k j)∧Kep S w wr) (fun _ i _=>xs.length-(intOf i).toNat)
 case atStart=>exact ⟨0,_,Nat.zero_le _,rfl,rfl,⟨by simp [nL]⟩,by rw [Zem];exact H,Kep.refl _ _⟩
 case round =>
  obtain ⟨j,K,hj,rfl,rfl,hKa,hR,hKp⟩:=hrel
  have hK:=hKa.out
  by_cases hlt:j<xs.length
  ·obtain ⟨x,hx⟩:=Zar xs hlt
   have ht:=Zcw Zdz xs j x hx
   have hle:=Zfg Zdz xs (j+1)
   have hn:Zdz.n x=1:=rfl
   rw [hn] at ht
   have hK0:0≤K:=by omega
   have hmax:K+(1:Nat)≤1099511627776:=by omega
   have hta:=Aside0.mk ht
   clear ht hle hn
   have hset:=Zfk Zdz xs k j x hx
   rw [← hK] at hset
   clear hK
   have hset:=Aside0.mk hset
   obtain ⟨g,cap,hv⟩:=Zex hR (by rw [Zbp];omega)
   rw [Zbp] at hv
   injection hv with hA _ hcap
   subst hA
   subst hcap
   obtain ⟨T,cur,cs,hS,hSg,hg,hT,hO,hback⟩:=Zcp hR ((Zfj Zdz xs k j).trans hx)
   obtain rfl:=Zyy (Zbh hO)
   have hS0:Seg wr g 4 cur (j*1) 1 [.bool x]:=hS
   rw [Nat.mul_one] at hS0
   have hback0:=hback
   rw [show j*Zgk.length=j from Nat.mul_one j] at hback0
   have c0_0:wr.cell? ⟨g,j,none⟩=some (.bool x):=hS0.cell 0 _ rfl
   have f0_0:wr.frozen? ⟨g,j,none⟩=false:=hS0.froz _
   go_wp2
   have hSe:=(hS0.set 0 (by decide) (.bool ((K) % 3==0)))
   have hce:=((Kep.refl (fun b=>b=g∨T b) wr).set (i:=j) (.inl rfl) (.bool ((K) % 3==0)))
   have hfin:=hback0 _ _ (Zdz.put x K) T hSe hce (Ztm _ _ _) (fun b h=>.inl h)
   rw [hset.out] at hfin
   have hK:=hKa.out
   have ht:=hta.out
   refine ⟨⟨j+1,_,by omega,rfl,rfl,⟨by omega⟩,hfin,hKp.trans hce (fun b _ h=>h.elim (fun e=>e▸hSg) (fun h=>(hT b h).1))⟩, ?_⟩
   simp [intOf]
   omega
  ·have e:j=xs.length:=by omega
   subst e
   rw [List.take_length] at hK
   rw [Zfi] at hR
   go_wp2
   go_ret
   exact ⟨by rw [hK];rfl,hR,hKp⟩
theorem Zjd (v:Value) (xs:List Ord) (k:Int) (S:Nat→Prop) (w:World) (H:Rw kOrd 181 w S v xs) (h0:0≤k) (h1:k+(nL mOrd xs:Nat)≤1099511627776) :
  Calls Tryz.prog 78 #[v,.int .i64 k] w fun e w'=>e=.returned (.int .i64 (k+(nL mOrd xs:Nat)))∧Rw kOrd 181 w' S v (mkL mOrd xs k)∧Kep S w w':=by
 obtain ⟨A,c,rfl,hc,hr⟩:=Zbl H
 have hm:=Zax hr
 clear hr
 go_enter Tryz.func78,Tryz.ntmps78
 go_wp2
 go_loopw [1,5] (fun kv i wr=>∃ (j:Nat) (K:Int),j≤xs.length∧kv=.int .i64 K∧i=.int .i64 j∧Aside0 (K=k+(nL mOrd (xs.take j):Nat))∧Rw kOrd 181 wr S (.slice A xs.length c) (mkI mOrd xs k j)∧Kep S w wr) (fun _ i _=>xs.length-(intOf i).toNat)
 case atStart=>exact ⟨0,_,Nat.zero_le _,rfl,rfl,⟨by simp [nL]⟩,by rw [Zem];exact H,Kep.refl _ _⟩
 case round =>
  obtain ⟨j,K,hj,rfl,rfl,hKa,hR,hKp⟩:=hrel
  have hK:=hKa.out
  by_cases hlt:j<xs.length
  ·obtain ⟨x,hx⟩:=Zar xs hlt
   have ht:=Zcw mOrd xs j x hx
   have hle:=Zfg mOrd xs (j+1)
   have hn:mOrd.n x=4:=rfl
   rw [hn] at ht
   have hK0:0≤K:=by omega
   have hmax:K+(4:Nat)≤1099511627776:=by omega
   have hta:=Aside0.mk ht
   clear ht hle hn
   have hset:=Zfk mOrd xs k j x hx
   rw [← hK] at hset
   clear hK
   have hset:=Aside0.mk hset
   obtain ⟨g,cap,hv⟩:=Zex hR (by rw [Zbp];omega)
   rw [Zbp] at hv
   injection hv with hA _ hcap
   subst hA
   subst hcap
   obtain ⟨T,cur,cs,hS,hSg,hg,hT,hO,hback⟩:=Zcp hR ((Zfj mOrd xs k j).trans hx)
   obtain rfl:=Yaa (Zbh hO)
   have hS0:Seg wr g 181 cur (j*4) 4 [.int .i64 x.op,.int .i64 x.a,.int .i64 x.b,.int .i64 x.c]:=hS
   have hback0:=hback
   have c0_0:wr.cell? ⟨g,j*4,none⟩=some (.int .i64 x.op):=hS0.cell 0 _ rfl
   have f0_0:wr.frozen? ⟨g,j*4,none⟩=false:=hS0.froz _
   have c1_0:wr.cell? ⟨g,j*4+1,none⟩=some (.int .i64 x.a):=hS0.cell 1 _ rfl
   have f1_0:wr.frozen? ⟨g,j*4+1,none⟩=false:=hS0.froz _
   have c2_0:wr.cell? ⟨g,j*4+2,none⟩=some (.int .i64 x.b):=hS0.cell 2 _ rfl
   have f2_0:wr.frozen? ⟨g,j*4+2,none⟩=false:=hS0.froz _
   have c3_0:wr.cell? ⟨g,j*4+3,none⟩=some (.int .i64 x.c):=hS0.cell 3 _ rfl
   have f3_0:wr.frozen? ⟨g,j*4+3,none⟩=false:=hS0.froz _
   go_wp2
   have hSe:=((((hS0.set 0 (by decide) (.int .i64 (K))).set 1 (by decide) (.int .i64 (K+1))).set 2 (by decide) (.int .i64 (K+1+1))).set 3 (by decide) (.int .i64 (K+1+1+1)))
   have hce:=(((((Kep.refl (fun b=>b=g∨T b) wr).set (i:=j*4) (.inl rfl) (.int .i64 (K))).set (i:=j*4+1) (.inl rfl) (.int .i64 (K+1))).set (i:=j*4+2) (.inl rfl) (.int .i64 (K+1+1))).set (i:=j*4+3) (.inl rfl) (.int .i64 (K+1+1+1)))
   have hfin:=hback0 _ _ (mOrd.put x K) T hSe hce (Zwv _ _ _) (fun b h=>.inl h)
   rw [hset.out] at hfin
   have hK:=hKa.out
   have ht:=hta.out
   refine ⟨⟨j+1,_,by omega,rfl,rfl,⟨by omega⟩,hfin,hKp.trans hce (fun b _ h=>h.elim (fun e=>e▸hSg) (fun h=>(hT b h).1))⟩, ?_⟩
   simp [intOf]
   omega
  ·have e:j=xs.length:=by omega
   subst e
   rw [List.take_length] at hK
   rw [Zfi] at hR
   go_wp2
   go_ret
   exact ⟨by rw [hK];rfl,hR,hKp⟩
theorem Zje (v:Value) (xs:List Slt) (k:Int) (S:Nat→Prop) (w:World) (H:Rw kSlt 121 w S v xs) (h0:0≤k) (h1:k+(nL mSlt xs:Nat)≤1099511627776) :
  Calls Tryz.prog 36 #[v,.int .i64 k] w fun e w'=>e=.returned (.int .i64 (k+(nL mSlt xs:Nat)))∧Rw kSlt 121 w' S v (mkL mSlt xs k)∧Kep S w w':=by
 obtain ⟨A,c,rfl,hc,hr⟩:=Zbl H
 have hm:=Zax hr
 clear hr
 go_enter Tryz.func36,Tryz.ntmps36
 go_wp2
 go_loopw [1,5] (fun kv i wr=>∃ (j:Nat) (K:Int),j≤xs.length∧kv=.int .i64 K∧i=.int .i64 j∧Aside0 (K=k+(nL mSlt (xs.take j):Nat))∧Rw kSlt 121 wr S (.slice A xs.length c) (mkI mSlt xs k j)∧Kep S w wr) (fun _ i _=>xs.length-(intOf i).toNat)
 case atStart=>exact ⟨0,_,Nat.zero_le _,rfl,rfl,⟨by simp [nL]⟩,by rw [Zem];exact H,Kep.refl _ _⟩
 case round =>
  obtain ⟨j,K,hj,rfl,rfl,hKa,hR,hKp⟩:=hrel
  have hK:=hKa.out
  by_cases hlt:j<xs.length
  ·obtain ⟨x,hx⟩:=Zar xs hlt
   have ht:=Zcw mSlt xs j x hx
   have hle:=Zfg mSlt xs (j+1)
   have hn:mSlt.n x=2:=rfl
   rw [hn] at ht
   have hK0:0≤K:=by omega
   have hmax:K+(2:Nat)≤1099511627776:=by omega
   have hta:=Aside0.mk ht
   clear ht hle hn
   have hset:=Zfk mSlt xs k j x hx
   rw [← hK] at hset
   clear hK
   have hset:=Aside0.mk hset
   obtain ⟨g,cap,hv⟩:=Zex hR (by rw [Zbp];omega)
   rw [Zbp] at hv
   injection hv with hA _ hcap
   subst hA
   subst hcap
   obtain ⟨T,cur,cs,hS,hSg,hg,hT,hO,hback⟩:=Zcp hR ((Zfj mSlt xs k j).trans hx)
   obtain rfl:=Zzj (Zbh hO)
   have hS0:Seg wr g 121 cur (j*2) 2 [.int .i64 x.node,.int .i64 x.way]:=hS
   have hback0:=hback
   have c0_0:wr.cell? ⟨g,j*2,none⟩=some (.int .i64 x.node):=hS0.cell 0 _ rfl
   have f0_0:wr.frozen? ⟨g,j*2,none⟩=false:=hS0.froz _
   have c1_0:wr.cell? ⟨g,j*2+1,none⟩=some (.int .i64 x.way):=hS0.cell 1 _ rfl
   have f1_0:wr.frozen? ⟨g,j*2+1,none⟩=false:=hS0.froz _
   go_wp2
   have hSe:=((hS0.set 0 (by decide) (.int .i64 (K))).set 1 (by decide) (.int .i64 (K+1)))
   have hce:=(((Kep.refl (fun b=>b=g∨T b) wr).set (i:=j*2) (.inl rfl) (.int .i64 (K))).set (i:=j*2+1) (.inl rfl) (.int .i64 (K+1)))
   have hfin:=hback0 _ _ (mSlt.put x K) T hSe hce (Zwx _ _ _) (fun b h=>.inl h)
   rw [hset.out] at hfin
   have hK:=hKa.out
   have ht:=hta.out
   refine ⟨⟨j+1,_,by omega,rfl,rfl,⟨by omega⟩,hfin,hKp.trans hce (fun b _ h=>h.elim (fun e=>e▸hSg) (fun h=>(hT b h).1))⟩, ?_⟩
   simp [intOf]
   omega
  ·have e:j=xs.length:=by omega
   subst e
   rw [List.take_length] at hK
   rw [Zfi] at hR
   go_wp2
   go_ret
   exact ⟨by rw [hK];rfl,hR,hKp⟩
end Go.Proofs.YtaeckoinpllpnaaGreat
