/- Part 15 of the proof of its last text: this session's own texts, shortened and joined by a program of its own (wip/pack.py). -/
import Derived.Test.YtaeckoinpllpnaaGreatTal
import Derived.Test.YtaeckoinpllpnaaGreatTai
import Derived.Test.YtaeckoinpllpnaaGreatTan
import Derived.Test.YtaeckoinpllpnaaGreatTag
import Derived.Test.YtaeckoinpllpnaaGreatTaa
import Derived.Deep.QuietTactic
import Derived.BigQuiet
set_option linter.unusedVariables false
set_option linter.unusedSimpArgs false
set_option maxHeartbeats 16000000
set_option maxRecDepth 100000
namespace Go.Proofs.YtaeckoinpllpnaaGreat
open Go.RowKit Go.Proofs.YtaeckoinpllpnaaGreatW.PrintWords
theorem Zoo (x:Pln) (cs:List Value) (w:World) (gp:Nat) (hP:allK w x kPln cs) (hN:w.heap[gp]? = some (.cells cs.toArray 33 (0,0))) :
  Calls Tryz.prog 158 #[.agg #[.pointer (some ⟨gp,0,none⟩)]] w fun e w'=>(∃ k:Nat,e=.returned (errV (x.cells.all (Zfc x.nodes)) 5 k))∧Below w.heap.size w w':=by
 have hw0:Below w.heap.size w (w.alloc (.cells #[.pointer (some ⟨gp,0,none⟩)] 201)):=(brf_).alloc nlr_ _
 have NV:=Zas w (.cells #[.pointer (some ⟨gp,0,none⟩)] 201)
 have NP:=Zal hN (.cells #[.pointer (some ⟨gp,0,none⟩)] 201)
 have hP0:=hP
 obtain ⟨A1,c1,A2,c2,A3,c3,A4,c4,rfl,l1,r1,l2,r2,l3,r3,l4,r4⟩:=Zcs hP
 have hn9:x.cells.length<9223372036854775808:=by have:=Zax r1;omega
 have q:=Zkq x.cells.length 5 hn9 (atP (Zfc x.nodes) x.cells) (.pointer (some ⟨w.heap.size,0,none⟩)) (w.alloc (.cells #[.pointer (some ⟨gp,0,none⟩)] 201)) (fun k w1 hk hb=>by
  obtain ⟨y,hy⟩:=Zar x.cells hk
  rw [Ztd hy]
  exact Zqq x _ w1 gp (Zai (hw0.trans (hb.mono hw0.size)) hP) (Zab NP hb) w.heap.size (Zab NV hb) k y hy)
 rw [Zme] at q
 obtain ⟨-,-,-,pn⟩:=cellsP4 NP
 clear hP hP0 hN NP NV
 go_enter Tryz.func158,Tryz.ntmps158
 go_wp2_with (go_at_call 195;with_reducible refine q.mono ?_;rintro e w1 ⟨⟨kk,rfl⟩,hb1⟩)
 go_ret
 exact ⟨⟨kk,rfl⟩,hw0.trans (hb1.mono hw0.size)⟩
theorem Zqt (x:Pln) (cs:List Value) (w:World) (gp:Nat) (hP:allK w x kPln cs) (hN:w.heap[gp]? = some (.cells cs.toArray 33 (0,0))) :
  Calls Tryz.prog 160 #[.agg #[.pointer (some ⟨gp,0,none⟩)]] w fun e w'=>(∃ k:Nat,e=.returned (errV (x.ways.all (wyOk x.cells.length)) 7 k))∧Below w.heap.size w w':=by
 have hw0:Below w.heap.size w (w.alloc (.cells #[.pointer (some ⟨gp,0,none⟩)] 201)):=(brf_).alloc nlr_ _
 have NV:=Zas w (.cells #[.pointer (some ⟨gp,0,none⟩)] 201)
 have NP:=Zal hN (.cells #[.pointer (some ⟨gp,0,none⟩)] 201)
 have hP0:=hP
 obtain ⟨A1,c1,A2,c2,A3,c3,A4,c4,rfl,l1,r1,l2,r2,l3,r3,l4,r4⟩:=Zcs hP
 have hn9:x.ways.length<9223372036854775808:=by have:=Zax r2;omega
 have q:=Zmf x.ways.length 7 hn9 (atP (wyOk x.cells.length) x.ways) (.pointer (some ⟨w.heap.size,0,none⟩)) (w.alloc (.cells #[.pointer (some ⟨gp,0,none⟩)] 201)) (fun k w1 hk hb=>by
  obtain ⟨y,hy⟩:=Zar x.ways hk
  rw [Ztd hy]
  exact Zsi x _ w1 gp (Zai (hw0.trans (hb.mono hw0.size)) hP) (Zab NP hb) w.heap.size (Zab NV hb) k y hy)
 rw [Zme] at q
 obtain ⟨-,-,-,-,pn⟩:=cellsP5 NP
 clear hP hP0 hN NP NV
 go_enter Tryz.func160,Tryz.ntmps160
 go_wp2_with (go_at_call 195;with_reducible refine q.mono ?_;rintro e w1 ⟨⟨kk,rfl⟩,hb1⟩)
 go_ret
 exact ⟨⟨kk,rfl⟩,hw0.trans (hb1.mono hw0.size)⟩
theorem Zop (x:Pln) (cs:List Value) (w:World) (gp:Nat) (hP:allK w x kPln cs) (hN:w.heap[gp]? = some (.cells cs.toArray 33 (0,0))) (hW:Zhg x) :
  Calls Tryz.prog 161 #[.agg #[.pointer (some ⟨gp,0,none⟩)]] w fun e w'=>(∃ k:Nat,e=.returned (errV (x.ways.all (Zfy x)) 8 k))∧Below w.heap.size w w':=by
 have hw0:Below w.heap.size w (w.alloc (.cells #[.pointer (some ⟨gp,0,none⟩)] 201)):=(brf_).alloc nlr_ _
 have NV:=Zas w (.cells #[.pointer (some ⟨gp,0,none⟩)] 201)
 have NP:=Zal hN (.cells #[.pointer (some ⟨gp,0,none⟩)] 201)
 have hP0:=hP
 obtain ⟨A1,c1,A2,c2,A3,c3,A4,c4,rfl,l1,r1,l2,r2,l3,r3,l4,r4⟩:=Zcs hP
 have hn9:x.ways.length<9223372036854775808:=by have:=Zax r2;omega
 have q:=Zkr x.ways.length 8 hn9 (atP (Zfy x) x.ways) (.pointer (some ⟨w.heap.size,0,none⟩)) (w.alloc (.cells #[.pointer (some ⟨gp,0,none⟩)] 201)) (fun k w1 hk hb=>by
  obtain ⟨y,hy⟩:=Zar x.ways hk
  rw [Ztd hy]
  exact Zqr x _ w1 gp (Zai (hw0.trans (hb.mono hw0.size)) hP) (Zab NP hb) w.heap.size (Zab NV hb) k y hy hW)
 rw [Zme] at q
 obtain ⟨-,-,-,-,pn⟩:=cellsP5 NP
 clear hP hP0 hN NP NV
 go_enter Tryz.func161,Tryz.ntmps161
 go_wp2_with (go_at_call 195;with_reducible refine q.mono ?_;rintro e w1 ⟨⟨kk,rfl⟩,hb1⟩)
 go_ret
 exact ⟨⟨kk,rfl⟩,hw0.trans (hb1.mono hw0.size)⟩
theorem Zoq (x:Pln) (cs:List Value) (w:World) (gp:Nat) (hP:allK w x kPln cs) (hN:w.heap[gp]? = some (.cells cs.toArray 33 (0,0))) (hW:Zhg x) :
  Calls Tryz.prog 163 #[.agg #[.pointer (some ⟨gp,0,none⟩)]] w fun e w'=>(∃ k:Nat,e=.returned (errV (x.slots.all (Zfe x)) 10 k))∧Below w.heap.size w w':=by
 have hw0:Below w.heap.size w (w.alloc (.cells #[.pointer (some ⟨gp,0,none⟩)] 201)):=(brf_).alloc nlr_ _
 have NV:=Zas w (.cells #[.pointer (some ⟨gp,0,none⟩)] 201)
 have NP:=Zal hN (.cells #[.pointer (some ⟨gp,0,none⟩)] 201)
 have hP0:=hP
 obtain ⟨A1,c1,A2,c2,A3,c3,A4,c4,rfl,l1,r1,l2,r2,l3,r3,l4,r4⟩:=Zcs hP
 have hn9:x.slots.length<9223372036854775808:=by have:=Zax r3;omega
 have q:=Zks x.slots.length 10 hn9 (atP (Zfe x) x.slots) (.pointer (some ⟨w.heap.size,0,none⟩)) (w.alloc (.cells #[.pointer (some ⟨gp,0,none⟩)] 201)) (fun k w1 hk hb=>by
  obtain ⟨y,hy⟩:=Zar x.slots hk
  rw [Ztd hy]
  exact Zqs x _ w1 gp (Zai (hw0.trans (hb.mono hw0.size)) hP) (Zab NP hb) w.heap.size (Zab NV hb) k y hy hW)
 rw [Zme] at q
 obtain ⟨-,-,-,-,-,pn⟩:=cellsP6 NP
 clear hP hP0 hN NP NV
 go_enter Tryz.func163,Tryz.ntmps163
 go_wp2_with (go_at_call 195;with_reducible refine q.mono ?_;rintro e w1 ⟨⟨kk,rfl⟩,hb1⟩)
 go_ret
 exact ⟨⟨kk,rfl⟩,hw0.trans (hb1.mono hw0.size)⟩
theorem Zip (x:Pln) (cs:List Value) (w:World) (gp:Nat) (hP:allK w x kPln cs) (hN:w.heap[gp]? = some (.cells cs.toArray 33 (0,0))) (node way:Int) (hn0:0≤node) :
  Calls Tryz.prog 205 #[.agg #[.pointer (some ⟨gp,0,none⟩)],.int .i64 node,.int .i64 way] w fun e w'=>e=.returned (.bool (Zci x.slots node way))∧Below w.heap.size w w':=by
 obtain ⟨A1,c1,A2,c2,A3,c3,A4,c4,rfl,l1,r1,l2,r2,l3,r3,l4,r4⟩:=Zcs hP
 have hm:=Zax r3
 have hw0:Below w.heap.size w (w.alloc (.cells #[.pointer (some ⟨gp,0,none⟩)] 201)):=(brf_).alloc nlr_ _
 have hnf:=decide_eq_false (show ¬node<0 by omega)
 have p5:(w.alloc (.cells #[.pointer (some ⟨gp,0,none⟩)] 201)).cell? ⟨gp,5,none⟩=some (.slice A3 x.slots.length c3):=Zag (Zal hN _) rfl
 go_enter Tryz.func205,Tryz.ntmps205
 go_wp2
 change Code.wp _ _ _ _ (w.alloc (.cells #[.pointer (some ⟨gp,0,none⟩)] 201))
 generalize w.alloc (.cells #[.pointer (some ⟨gp,0,none⟩)] 201)=W at *
 go_loopw [15] (fun i wr=>∃ k:Nat,k≤x.slots.length∧i=.int .i64 k∧Aside0 ((x.slots.take k).any (fun s:Slt=>s.way==way&&(decide (node<0)||s.node==node))=false)∧Below W.heap.size W wr) (fun i _=>x.slots.length-(intOf i).toNat)
 case atStart=>exact ⟨0,Nat.zero_le _,rfl,⟨rfl⟩,brf_⟩
 case round =>
  obtain ⟨k,hk,rfl,hall,hb⟩:=hrel
  have hwr:=hw0.trans (hb.mono hw0.size)
  by_cases hlt:k<x.slots.length
  ·obtain ⟨s,hs⟩:=Zar x.slots hlt
   obtain ⟨ad,rfl,y0,y1⟩:=Zoh (Zac r3 hwr) hs
   cases t3:(s.node==node)
   ·have hr:=Aside0.mk (Zlz (p:=(fun s:Slt=>s.way==way&&(decide (node<0)||s.node==node))) hs hall.out (by (try dsimp only);rw [hnf,t3];simp))
    go_wp2
    refine ⟨⟨k+1,by omega,rfl,hr,hb.alloc hb.size _⟩, ?_⟩
    simp [intOf]
    omega
   ·cases t1:(s.way==way)
    ·have hr:=Aside0.mk (Zlz (p:=(fun s:Slt=>s.way==way&&(decide (node<0)||s.node==node))) hs hall.out (by (try dsimp only);rw [t1];rfl))
     go_wp2
     refine ⟨⟨k+1,by omega,rfl,hr,hb.alloc hb.size _⟩, ?_⟩
     simp [intOf]
     omega
    ·have hr:=Aside0.mk (Zpw (p:=(fun s:Slt=>s.way==way&&(decide (node<0)||s.node==node))) hs (by (try dsimp only);rw [t1,hnf,t3];rfl))
     go_wp2
     go_ret
     exact ⟨by rw [Zci,hr.out];rfl,hwr.alloc hwr.size _⟩
  ·have e:k=x.slots.length:=by omega
   have hr:=hall.out
   rw [e,List.take_length] at hr
   have hr:=Aside0.mk hr
   clear hall
   go_wp2
   go_ret
   exact ⟨by rw [Zci,hr.out];rfl,hwr⟩
end Go.Proofs.YtaeckoinpllpnaaGreat
namespace Go.Proofs.YtaeckoinpllpnaaGreat
open Go.RowKit Go.Proofs.YtaeckoinpllpnaaGreatW.PrintWords Go.Proofs.YtaeckoinpllpnaaGreatW.PrintLast
theorem Zor (x:Pln) (cs:List Value) (w:World) (gp:Nat) (hP:allK w x kPln cs) (hN:w.heap[gp]? = some (.cells cs.toArray 33 (0,0))) (gv:Nat) (hV:w.heap[gv]? = some (.cells #[.pointer (some ⟨gp,0,none⟩)] 201 (0,0))) (k:Nat) :
  Calls Tryz.prog 204 #[.int .i64 k,.pointer (some ⟨gv,0,none⟩)] w fun e w'=>e=.returned (.bool (!(Zci x.slots (k:Int) (-1))))∧Below w.heap.size w w':=by
 have q:=Zip x cs w gp hP hN (k:Int) (-1) (by omega)
 have pv:=cellsP1 hV
 go_enter Tryz.func204,Tryz.ntmps204
 go_wp2_with (go_at_call 205;with_reducible refine q.mono ?_;rintro e w1 ⟨rfl,hb1⟩)
 go_ret
 exact ⟨rfl,hb1⟩
theorem Zmi (x:Pln) (cs:List Value) (w:World) (gp:Nat) (hP:allK w x kPln cs) (hN:w.heap[gp]? = some (.cells cs.toArray 33 (0,0))) (gv:Nat) (hV:w.heap[gv]? = some (.cells #[.pointer (some ⟨gp,0,none⟩)] 201 (0,0))) (k:Nat) (hk:k<x.ways.length) (hW:Zhg x) (hb0:0≤begins x (k:Int)) :
  Calls Tryz.prog 206 #[.int .i64 k,.pointer (some ⟨gv,0,none⟩)] w fun e w'=>e=.returned (.bool (!(Zci x.slots (begins x (k:Int)) (k:Int))))∧Below w.heap.size w w':=by
 have hd:=Zat (Below.refl w.heap.size w)
 have q1:=Zhu x cs w.drew gp (Zai hd hP) (Zdb hN) (k:Int) (by omega) (by omega) hW
 have q2:=fun w1 (hb:Below w.drew.heap.size w.drew w1)=>Zip x cs w1 gp (Zai (hd.trans (hb.mono hd.size)) hP) (Zab (Zdb hN) hb) (begins x (k:Int)) (k:Int) hb0
 clear hP hN hW
 go_enter Tryz.func206,Tryz.ntmps206
 go_upto_region 1 with (fail)
 refine Zfm (n:=9) (S:=fun w'=>w'.cell? ⟨gv,0,none⟩=some (.pointer (some ⟨gp,0,none⟩))∧w'.cell? ⟨gv,0,none⟩=some (.pointer (some ⟨gp,0,none⟩))) (ds:=[]) (upB 9 0) (by kernel_rfl) rfl rfl ⟨Zag (Zdb hV) rfl,Zag (Zdb hV) rfl⟩ (fun hHeld=>?_)
 generalize w.drew=Wd at *
 refine Zbz (i:=0) (N:=some 4) (upB 9 1) rfl rfl (by kernel_rfl) (fun _ _ _ h=>h) (Or.inl ⟨by rfl,by rintro w' ⟨s0,s1⟩;go_simp;with_reducible rfl⟩) hHeld (by simp only [Act.put,pkA,pkB,pkC];rfl) ?_
 refine Zap (i:=1) (N:=some 5) (upB 9 2) rfl rfl (by kernel_rfl) (fun _ _ _ h=>h) (Or.inl ⟨by rfl,fun w'=>by go_simp;with_reducible rfl⟩) (by simp only [Act.put,pkA,pkB,pkC];rfl) ?_
 refine Zbz (i:=2) (N:=some 6) (upB 9 3) rfl rfl (by kernel_rfl) (fun _ _ _ h=>h) (Or.inl ⟨by rfl,by rintro w' ⟨s0,s1⟩;go_simp;with_reducible rfl⟩) hHeld (by simp only [Act.put,pkA,pkB,pkC];rfl) ?_
 refine Zap (i:=3) (N:=some 7) (upB 9 4) rfl rfl (by kernel_rfl) (fun _ _ _ h=>h) (Or.inl ⟨by rfl,fun w'=>by go_simp;with_reducible rfl⟩) (by simp only [Act.put,pkA,pkB,pkC];rfl) ?_
 refine Zap (i:=5) (N:=some 9) #[true,true,true,true,false,true,false,false,false] rfl rfl (by kernel_rfl) (fun _ _ _ h=>h) (Or.inl ⟨by rfl,fun w'=>by go_simp;with_reducible rfl⟩) (by simp only [Act.put,pkA,pkB,pkC];rfl) ?_
 refine one_ (i:=4) (N:=some 8) (upB 9 6) rfl rfl (by kernel_rfl) (by decide) (fun K hK=>?_)
 refine Zfw Tryz.func64 (by kernel_rfl) rfl #[.pointer (some ⟨gp,0,none⟩),.int .i64 k] (by rfl) rfl rfl (by (try simp only [List.map_toArray,List.map_cons,List.map_nil]);first | done | rfl) ?_
 with_reducible refine q1.mono ?_
 rintro e w1 ⟨rfl,hb1⟩
 refine ⟨_,rfl, ?_⟩
 refine hK.out _ _ ⟨Zaa hb1 hHeld.1,Zaa hb1 hHeld.2⟩ (fun hHeld=>?_)
 clear hK K
 refine Zbb (a':=?_) ?_ ?_
 rotate_left
 ·show Act.put _ (some 8) _=_
  simp only [Act.put,pkA,pkB,pkC]
  rfl
 refine one_ (i:=6) (N:=some 10) (upB 9 7) rfl rfl (by kernel_rfl) (by decide) (fun K hK=>?_)
 refine Zfw Tryz.func205 (by kernel_rfl) rfl #[.agg #[.pointer (some ⟨gp,0,none⟩)],.int .i64 (begins x k),.int .i64 k] (by rfl) rfl rfl (by (try simp only [List.map_toArray,List.map_cons,List.map_nil]);first | done | rfl) ?_
 with_reducible refine (q2 _ hb1).mono ?_
 rintro e w2 ⟨rfl,hb2⟩
 refine ⟨_,rfl, ?_⟩
 refine hK.out _ _ ⟨Zaa hb2 hHeld.1,Zaa hb2 hHeld.2⟩ (fun hHeld=>?_)
 clear hK K
 refine Zbb (a':=?_) ?_ ?_
 rotate_left
 ·show Act.put _ (some 10) _=_
  simp only [Act.put,pkA,pkB,pkC]
  rfl
 refine Zap (i:=7) (N:=some 11) (upB 9 8) rfl rfl (by kernel_rfl) (fun _ _ _ h=>h) (Or.inl ⟨by rfl,fun w'=>by go_simp;with_reducible rfl⟩) (by simp only [Act.put,pkA,pkB,pkC];rfl) ?_
 refine Zap (i:=8) (N:=some 3) (upB 9 9) rfl rfl (by kernel_rfl) (fun _ _ _ h=>h) (Or.inl ⟨by rfl,fun w'=>by go_simp;with_reducible rfl⟩) (by simp only [Act.put,pkA,pkB,pkC];rfl) ?_
 refine Zgw (by kernel_rfl) ?_
 go_wp2
 go_ret
 exact ⟨rfl,hd.trans (hb1.mono hd.size) |>.trans (hb2.mono (hd.trans (hb1.mono hd.size)).size)⟩
end Go.Proofs.YtaeckoinpllpnaaGreat
namespace Go.Proofs.YtaeckoinpllpnaaGreat
open Go.RowKit Go.Proofs.YtaeckoinpllpnaaGreatW.PrintWords
theorem Zqu (x:Pln) (cs:List Value) (w:World) (gp:Nat) (hP:allK w x kPln cs) (hN:w.heap[gp]? = some (.cells cs.toArray 33 (0,0))) (gv:Nat) (hV:w.heap[gv]? = some (.cells #[.pointer (some ⟨gp,0,none⟩)] 201 (0,0))) (k:Nat) (t:List Int) (ht:x.turns[k]? = some t) :
  Calls Tryz.prog 207 #[.int .i64 k,.pointer (some ⟨gv,0,none⟩)] w fun e w'=>e=.returned (.bool (!(Zfn x k)))∧Below w.heap.size w w':=by
 obtain ⟨A1,c1,A2,c2,A3,c3,A4,c4,rfl,l1,r1,l2,r2,l3,r3,l4,r4⟩:=Zcs hP
 have hm:=Zax r1
 have hm4:=Zax r4
 have hkl:=(List.getElem?_eq_some_iff.1 ht).1
 obtain ⟨ad,B1,d1,rfl,y0,m1,s1⟩:=Zhb r4 ht
 have hmt:=Zax s1
 have pv:=cellsP1 hV
 obtain ⟨-,-,-,-,-,p5,p6⟩:=cellsP7 hN
 go_enter Tryz.func207,Tryz.ntmps207
 go_wp2_with (fail)
 cases hl:((t.length:Int) != (x.slots.length:Int))
 ·have hle:t.length=x.slots.length:=by have:=bne_eq_false_iff_eq.1 hl;omega
  have hto:Aside0 (Zfn x k=t.all (fun c:Int=>inB c (-1) ((x.cells.length:Int)-1)&&(decide (c<0)||Zel x c==(k:Int)))):=⟨by rw [Zfn,ht];simp only [hle,decide_true,Bool.true_and]⟩
  clear hle
  go_quiet (fail)
  rename_i nq
  clear hl
  have hwq:=Zay (Below.refl w.heap.size w) nq
  have NV:=Zdy hV nq
  have NP:=Zdy hN nq
  have e0:=Zaa hwq y0
  clear pv p5 p6
  generalize W0eq:w.drewN nq=W2 at *
  clear W0eq
  have pv:=cellsP1 NV
  obtain ⟨-,-,-,-,-,-,p6⟩:=cellsP7 NP
  go_wp2
  clear e0 pv p6
  go_loopw [31] (fun i wr=>∃ j:Nat,j≤t.length∧i=.int .i64 j∧Aside0 ((t.take j).all (fun c:Int=>inB c (-1) ((x.cells.length:Int)-1)&&(decide (c<0)||Zel x c==(k:Int)))=true)∧Below W2.heap.size W2 wr) (fun i _=>t.length-(intOf i).toNat)
  case atStart=>exact ⟨0,Nat.zero_le _,rfl,⟨rfl⟩,brf_⟩
  case round =>
   obtain ⟨j,hj,rfl,hall,hb⟩:=hrel
   have hwr:=hwq.trans (hb.mono hwq.size)
   have Vr:=Zab NV hb
   have Pr:=Zab NP hb
   have pv:=cellsP1 Vr
   obtain ⟨-,-,-,p3⟩:=cellsP4 Pr
   by_cases hlt:j<t.length
   ·obtain ⟨c,hc⟩:=Zar t hlt
    obtain ⟨bd,rfl,v0⟩:=Zeq (Zac s1 hwr) hc
    have q1:=fun w=>Zcv c x.cells.length w
    cases hm1:(c != -1)
    ·have hcm:c = -1:=bne_eq_false_iff_eq.1 hm1
     have hr:=Aside0.mk (Zbi (p:=(fun c:Int=>inB c (-1) ((x.cells.length:Int)-1)&&(decide (c<0)||Zel x c==(k:Int)))) hc hall.out (by (try dsimp only);rw [hcm,show inB (-1) (-1) ((x.cells.length:Int)-1)=true by simp [inB];omega];rfl))
     clear hcm hall
     go_wp2
     refine ⟨⟨j+1,by omega,rfl,hr,hb⟩, ?_⟩
     simp [intOf]
     omega
    ·have hcm:c≠-1:=bne_iff_ne.1 hm1
     cases h1:hasP c x.cells.length
     ·rw [h1] at q1
      have hr:=Aside0.mk (Zcg (p:=(fun c:Int=>inB c (-1) ((x.cells.length:Int)-1)&&(decide (c<0)||Zel x c==(k:Int)))) hc (by
       (try dsimp only)
       rw [show inB c (-1) ((x.cells.length:Int)-1)=false by
        simp only [hasP,inB,Bool.and_eq_false_iff,decide_eq_false_iff_not] at h1 ⊢
        omega]
       rfl))
      clear h1 hcm hall
      go_wp2_with (go_at_call 186;with_reducible refine (q1 _).mono ?_;rintro e w1 ⟨rfl,rfl⟩)
      go_ret
      exact ⟨by rw [hto.out,hr.out];rfl,hwr⟩
     ·rw [h1] at q1
      have hh:0≤c∧c<(x.cells.length:Int):=by simpa [hasP] using h1
      obtain ⟨h0,hlc⟩:=hh
      have e1:inB c (-1) ((x.cells.length:Int)-1)=true:=by simp [inB];omega
      have e2:decide (c<0)=false:=decide_eq_false (by omega)
      obtain ⟨z,hz⟩:=Zar x.cells (show c.toNat<x.cells.length by omega)
      obtain ⟨zd,B2,d2,rfl,z0,z1,z2,z3,z4,m2,s2⟩:=Zed (Zac r1 hwr) hz
      have e3:=Zdl hz
      cases h2:(z.node != (k:Int))
      ·have hr:=Aside0.mk (Zbi (p:=(fun c:Int=>inB c (-1) ((x.cells.length:Int)-1)&&(decide (c<0)||Zel x c==(k:Int)))) hc hall.out (by (try dsimp only);rw [e1,e2,e3,bne_eq_false_iff_eq.1 h2];simp))
       clear h1 hcm hall e1 e2 e3 s2 hz
       go_wp2_with (go_at_call 186;with_reducible refine (q1 _).mono ?_;rintro e w1 ⟨rfl,rfl⟩)
       refine ⟨⟨j+1,by omega,rfl,hr,hb⟩, ?_⟩
       simp [intOf]
       omega
      ·have hr:=Aside0.mk (Zcg (p:=(fun c:Int=>inB c (-1) ((x.cells.length:Int)-1)&&(decide (c<0)||Zel x c==(k:Int)))) hc (by (try dsimp only);rw [e1,e2,e3,beq_eq_false_iff_ne.2 (bne_iff_ne.1 h2)];rfl))
       clear h1 hcm hall e1 e2 e3 s2 hz
       go_wp2_with (go_at_call 186;with_reducible refine (q1 _).mono ?_;rintro e w1 ⟨rfl,rfl⟩)
       go_ret
       exact ⟨by rw [hto.out,hr.out];rfl,hwr⟩
   ·have e:j=t.length:=by omega
    have hr:=hall.out
    rw [e,List.take_length] at hr
    have hr:=Aside0.mk hr
    clear hall
    go_wp2
    go_ret
    exact ⟨by rw [hto.out,hr.out];rfl,hwr⟩
 ·have hr:Aside0 (Zfn x k=false):=⟨by
   have:=bne_iff_ne.1 hl
   rw [Zfn,ht]
   simp only [decide_eq_false (show ¬t.length=x.slots.length by omega),Bool.false_and]⟩
  go_quiet (fail)
  rename_i nq
  go_wp2
  go_ret
  exact ⟨by rw [hr.out];rfl,Zay brf_ nq⟩
theorem Zkw (x:Pln) (cs:List Value) (w:World) (gp:Nat) (hP:allK w x kPln cs) (hN:w.heap[gp]? = some (.cells cs.toArray 33 (0,0))) (gv:Nat) (hV:w.heap[gv]? = some (.cells #[.pointer (some ⟨gp,0,none⟩)] 201 (0,0))) (k:Nat) (z:Cel) (hz:x.cells[k]? = some z) (hn:0≤z.node) (t:List Int) (ht:x.turns[z.node.toNat]? = some t) :
  Calls Tryz.prog 208 #[.int .i64 k,.pointer (some ⟨gv,0,none⟩)] w fun e w'=>e=.returned (.bool (!(Zgg x k)))∧Below w.heap.size w w':=by
 obtain ⟨A1,c1,A2,c2,A3,c3,A4,c4,rfl,l1,r1,l2,r2,l3,r3,l4,r4⟩:=Zcs hP
 have hm:=Zax r1
 have hm4:=Zax r4
 have hkl:=(List.getElem?_eq_some_iff.1 hz).1
 have hzt:=(List.getElem?_eq_some_iff.1 ht).1
 have hid:Aside0 (Zgg x k=t.any fun c=>c==(k:Int)):=⟨by rw [Zgg,Zdl (show x.cells[((k:Nat):Int).toNat]? = some z from hz),ht]⟩
 obtain ⟨zd,B2,d2,rfl,z0,z1,z2,z3,z4,m2,s2⟩:=Zed r1 hz
 obtain ⟨ad,B1,d1,rfl,y0,m1,s1⟩:=Zhb r4 ht
 have hmt:=Zax s1
 have pv:=cellsP1 hV
 obtain ⟨-,-,-,p3,-,-,p6⟩:=cellsP7 hN
 clear s2 hz
 go_enter Tryz.func208,Tryz.ntmps208
 go_wp2_with (fail)
 go_quiet (fail)
 rename_i nq
 have hwq:=Zay (Below.refl w.heap.size w) nq
 clear pv p3 p6 z0 z1 z2 z3 z4 y0
 generalize W0eq:w.drewN nq=W2 at *
 clear W0eq
 go_wp2
 go_loopw [23] (fun i wr=>∃ j:Nat,j≤t.length∧i=.int .i64 j∧Aside0 ((t.take j).any (fun c=>c==(k:Int))=false)∧Below W2.heap.size W2 wr) (fun i _=>t.length-(intOf i).toNat)
 case atStart=>exact ⟨0,Nat.zero_le _,rfl,⟨rfl⟩,brf_⟩
 case round =>
  obtain ⟨j,hj,rfl,hall,hb⟩:=hrel
  have hwr:=hwq.trans (hb.mono hwq.size)
  by_cases hlt:j<t.length
  ·obtain ⟨c,hc⟩:=Zar t hlt
   obtain ⟨bd,rfl,v0⟩:=Zeq (Zac s1 hwr) hc
   cases h2:(c==(k:Int))
   ·have hr:=Aside0.mk (Zlz (p:=fun c=>c==(k:Int)) hc hall.out h2)
    clear hall
    go_wp2
    refine ⟨⟨j+1,by omega,rfl,hr,hb⟩, ?_⟩
    simp [intOf]
    omega
   ·have hr:=Aside0.mk (Zpw (p:=fun c=>c==(k:Int)) hc h2)
    clear hall
    go_wp2
    go_ret
    exact ⟨by rw [hid.out,hr.out];rfl,hwr⟩
  ·have e:j=t.length:=by omega
   have hr:=hall.out
   rw [e,List.take_length] at hr
   have hr:=Aside0.mk hr
   clear hall
   go_wp2
   go_ret
   exact ⟨by rw [hid.out,hr.out];rfl,hwr⟩
theorem Zmj (x:Pln) (cs:List Value) (w:World) (gp:Nat) (hP:allK w x kPln cs) (hN:w.heap[gp]? = some (.cells cs.toArray 33 (0,0))) (gv:Nat) (hV:w.heap[gv]? = some (.cells #[.pointer (some ⟨gp,0,none⟩)] 201 (0,0))) (k:Nat) (z:Cel) (hz:x.cells[k]? = some z) (hA0:∀ (j:Nat) (o:Ord),z.code[j]? = some o→(o.op=9∨o.op=10)→0≤o.a) :
  Calls Tryz.prog 209 #[.int .i64 k,.pointer (some ⟨gv,0,none⟩)] w fun e w'=>e=.returned (.bool (!(Zfs x k)))∧Below w.heap.size w w':=by
 obtain ⟨A1,c1,A2,c2,A3,c3,A4,c4,rfl,l1,r1,l2,r2,l3,r3,l4,r4⟩:=Zcs hP
 have hm:=Zax r1
 have hm2:=Zax r2
 have hkl:=(List.getElem?_eq_some_iff.1 hz).1
 have hto:Aside0 (Zfs x k=z.code.all (Zdm x k)):=⟨by rw [Zfs,hz]⟩
 obtain ⟨ad,B1,d1,rfl,z0,z1,z2,z3,z4,m1,s1⟩:=Zed r1 hz
 have hmc:=Zax s1
 have pv:=cellsP1 hV
 obtain ⟨-,-,-,p3⟩:=cellsP4 hN
 go_enter Tryz.func209,Tryz.ntmps209
 go_wp2
 clear z0 z1 z2 z3 z4 pv p3
 go_loopw [17] (fun i wr=>∃ j:Nat,j≤z.code.length∧i=.int .i64 j∧Aside0 ((z.code.take j).all (Zdm x k)=true)∧Below w.heap.size w wr) (fun i _=>z.code.length-(intOf i).toNat)
 case atStart=>exact ⟨0,Nat.zero_le _,rfl,⟨rfl⟩,brf_⟩
 case round =>
  obtain ⟨j,hj,rfl,hall,hb⟩:=hrel
  by_cases hlt:j<z.code.length
  ·obtain ⟨o,ho⟩:=Zar z.code hlt
   obtain ⟨od,rfl,o0,o1,o2,o3⟩:=Zog (Zac s1 hb) ho
   have hge:=hA0 j o ho
   have hwa:=hb.alloc hb.size (.cells #[.int .i64 o.op,.int .i64 o.a,.int .i64 o.b,.int .i64 o.c] 181)
   have Na:=Zas wr (.cells #[.int .i64 o.op,.int .i64 o.a,.int .i64 o.b,.int .i64 o.c] 181)
   have Va:=Zal (Zab hV hb) (.cells #[.int .i64 o.op,.int .i64 o.a,.int .i64 o.b,.int .i64 o.c] 181)
   have Pa:=Zal (Zab hN hb) (.cells #[.int .i64 o.op,.int .i64 o.a,.int .i64 o.b,.int .i64 o.c] 181)
   go_upto_region 4 with (fail)
   change Code.wp _ _ _ _ (wr.alloc (.cells #[.int .i64 o.op,.int .i64 o.a,.int .i64 o.b,.int .i64 o.c] 181))
   generalize wr.alloc (.cells #[.int .i64 o.op,.int .i64 o.a,.int .i64 o.b,.int .i64 o.c] 181)=Wa at *
   have pv:=cellsP1 Va
   obtain ⟨-,-,-,-,p4⟩:=cellsP5 Pa
   obtain ⟨av0,av1⟩:=cellsP2 Na
   by_cases h9:o.op=9
   ·have q1:=fun w=>Zcv o.a x.ways.length w
    have hge:=hge (.inl h9)
    have d9:(o.op==9)=true:=by rw [h9];rfl
    have d9':(o.op != 9)=false:=by rw [h9];rfl
    have d10:(o.op==10)=false:=by rw [h9];rfl
    by_cases ha:(x.ways.length:Int)≤o.a
    ·have hr:=Aside0.mk (Zcg (p:=Zdm x k) ho (by rw [Zdm,if_pos h9,decide_eq_false (by omega)];rfl))
     rw [show hasP o.a x.ways.length=false by simp [hasP];omega] at q1
     clear h9 hall
     go_wp2_with (fail)
     go_quiet (first | (go_at_call 186;with_reducible exact Calls.quiet_of_same (q1 _)))
     rename_i nq
     go_wp2
     go_ret
     exact ⟨by rw [hto.out,hr.out];rfl,Zay hwa nq⟩
    ·rw [show hasP o.a x.ways.length=true by simp [hasP];omega] at q1
     obtain ⟨y,hy⟩:=Zar x.ways (show o.a.toNat<x.ways.length by omega)
     have ha1:o.a<(x.ways.length:Int):=by omega
     have hc:Zdm x k o=(y.frm==(k:Int)):=by rw [Zdm,if_pos h9,decide_eq_true ha1,hy];rfl
     have hc:=Aside0.mk hc
     clear h9
     go_wp2_with (fail)
     go_quiet (first | (go_at_call 186;with_reducible exact Calls.quiet_of_same (q1 _)))
     rename_i nq
     replace hwa:=Zay hwa nq
     replace Na:=Zdy Na nq
     replace Va:=Zdy Va nq
     replace Pa:=Zdy Pa nq
     clear av0 av1 pv p4
     generalize Wa.drewN nq=W4 at *
     have pv:=cellsP1 Va
     obtain ⟨-,-,-,-,p4⟩:=cellsP5 Pa
     obtain ⟨-,av1⟩:=cellsP2 Na
     obtain ⟨wd,B3,d3,rfl,y0,y1,y2,y3,y4,m3,s3⟩:=Zhc (Zac r2 hwa) hy
     go_wp2_with (fail)
     have hZ:Below W4.heap.size W4 (W4.alloc (.cells #[.int .i64 0,.int .i64 0,.int .i64 0,.bool false,.slice none 0 0] 112)):=(brf_).alloc nlr_ _
     have z0:=Zaa hZ y0
     have z1:=Zaa hZ y1
     have z2:=Zaa hZ y2
     have z3:=Zaa hZ y3
     have z4:=Zaa hZ y4
     have zv:=Zaa hZ pv
     have z4':=Zaa hZ p4
     have za:=Zaa hZ av1
     have hY:Below W4.heap.size W4 (W4.alloc (.cells #[.int .i64 y.frm,.int .i64 y.dst,.int .i64 y.depth,.bool y.guarded,.slice B3 y.guard.length d3] 112)).drew:=Zat ((brf_).alloc nlr_ _)
     have Ny:=Zdb (Zas W4 (.cells #[.int .i64 y.frm,.int .i64 y.dst,.int .i64 y.depth,.bool y.guarded,.slice B3 y.guard.length d3] 112))
     have Nz:=Zdb (Zal Na (.cells #[.int .i64 y.frm,.int .i64 y.dst,.int .i64 y.depth,.bool y.guarded,.slice B3 y.guard.length d3] 112))
     go_region
     change Exit.then _ (Exit.inBlock 1 _) _ _ (W4.alloc (.cells #[.int .i64 y.frm,.int .i64 y.dst,.int .i64 y.depth,.bool y.guarded,.slice B3 y.guard.length d3] 112)).drew
     replace hwa:=hwa.trans (hY.mono hwa.size)
     clear z0 z1 z2 z3 z4 zv z4' za y0 y1 y2 y3 y4 hY s3
     generalize (W4.alloc (.cells #[.int .i64 y.frm,.int .i64 y.dst,.int .i64 y.depth,.bool y.guarded,.slice B3 y.guard.length d3] 112)).drew=W5 at *
     obtain ⟨z0,z1⟩:=cellsP2 Ny
     have za:=cellsP1 Nz
     cases h3:(y.frm != (k:Int))
     ·have hr:=Aside0.mk (Zbi (p:=Zdm x k) ho hall.out (by rw [hc.out,bne_eq_false_iff_eq.1 h3];exact beq_self_eq_true _))
      clear hall hc
      go_wp2
      refine ⟨⟨j+1,by omega,rfl,hr,hwa⟩, ?_⟩
      simp [intOf]
      omega
     ·have hr:=Aside0.mk (Zcg (p:=Zdm x k) ho (by rw [hc.out];exact beq_eq_false_iff_ne.2 (bne_iff_ne.1 h3)))
      clear hall hc
      go_wp2
      go_ret
      exact ⟨by rw [hto.out,hr.out];rfl,hwa⟩
   ·by_cases h10:o.op=10
    ·have q1:=fun w=>Zcv o.a x.ways.length w
     have hge:=hge (.inr h10)
     have d9:(o.op==9)=false:=beq_eq_false_iff_ne.2 h9
     have d9':(o.op != 9)=true:=bne_iff_ne.2 h9
     have d10:(o.op==10)=true:=by rw [h10];rfl
     have d10':(o.op != 10)=false:=by rw [h10];rfl
     by_cases ha:(x.ways.length:Int)≤o.a
     ·have hr:=Aside0.mk (Zcg (p:=Zdm x k) ho (by rw [Zdm,if_neg h9,if_pos h10,decide_eq_false (by omega)];rfl))
      rw [show hasP o.a x.ways.length=false by simp [hasP];omega] at q1
      clear h9 h10 hall
      go_wp2_with (fail)
      go_quiet (first | (go_at_call 186;with_reducible exact Calls.quiet_of_same (q1 _)))
      rename_i nq
      go_wp2
      go_ret
      exact ⟨by rw [hto.out,hr.out];rfl,Zay hwa nq⟩
     ·rw [show hasP o.a x.ways.length=true by simp [hasP];omega] at q1
      obtain ⟨y,hy⟩:=Zar x.ways (show o.a.toNat<x.ways.length by omega)
      have ha1:o.a<(x.ways.length:Int):=by omega
      have hc:Zdm x k o=(y.dst==(k:Int)):=by rw [Zdm,if_neg h9,if_pos h10,decide_eq_true ha1,hy];rfl
      have hc:=Aside0.mk hc
      clear h9 h10
      go_wp2_with (fail)
      go_quiet (first | (go_at_call 186;with_reducible exact Calls.quiet_of_same (q1 _)))
      rename_i nq
      replace hwa:=Zay hwa nq
      replace Na:=Zdy Na nq
      replace Va:=Zdy Va nq
      replace Pa:=Zdy Pa nq
      clear av0 av1 pv p4
      generalize Wa.drewN nq=W4 at *
      have pv:=cellsP1 Va
      obtain ⟨-,-,-,-,p4⟩:=cellsP5 Pa
      obtain ⟨-,av1⟩:=cellsP2 Na
      obtain ⟨wd,B3,d3,rfl,y0,y1,y2,y3,y4,m3,s3⟩:=Zhc (Zac r2 hwa) hy
      go_wp2_with (fail)
      have hZ:Below W4.heap.size W4 (W4.alloc (.cells #[.int .i64 0,.int .i64 0,.int .i64 0,.bool false,.slice none 0 0] 112)):=(brf_).alloc nlr_ _
      have z0:=Zaa hZ y0
      have z1:=Zaa hZ y1
      have z2:=Zaa hZ y2
      have z3:=Zaa hZ y3
      have z4:=Zaa hZ y4
      have zv:=Zaa hZ pv
      have z4':=Zaa hZ p4
      have za:=Zaa hZ av1
      have hY:Below W4.heap.size W4 (W4.alloc (.cells #[.int .i64 y.frm,.int .i64 y.dst,.int .i64 y.depth,.bool y.guarded,.slice B3 y.guard.length d3] 112)).drew:=Zat ((brf_).alloc nlr_ _)
      have Ny:=Zdb (Zas W4 (.cells #[.int .i64 y.frm,.int .i64 y.dst,.int .i64 y.depth,.bool y.guarded,.slice B3 y.guard.length d3] 112))
      have Nz:=Zdb (Zal Na (.cells #[.int .i64 y.frm,.int .i64 y.dst,.int .i64 y.depth,.bool y.guarded,.slice B3 y.guard.length d3] 112))
      go_region
      change Exit.then _ (Exit.inBlock 1 _) _ _ (W4.alloc (.cells #[.int .i64 y.frm,.int .i64 y.dst,.int .i64 y.depth,.bool y.guarded,.slice B3 y.guard.length d3] 112)).drew
      replace hwa:=hwa.trans (hY.mono hwa.size)
      clear z0 z1 z2 z3 z4 zv z4' za y0 y1 y2 y3 y4 hY s3
      generalize (W4.alloc (.cells #[.int .i64 y.frm,.int .i64 y.dst,.int .i64 y.depth,.bool y.guarded,.slice B3 y.guard.length d3] 112)).drew=W5 at *
      obtain ⟨z0,z1⟩:=cellsP2 Ny
      have za:=cellsP1 Nz
      cases h3:(y.dst != (k:Int))
      ·have hr:=Aside0.mk (Zbi (p:=Zdm x k) ho hall.out (by rw [hc.out,bne_eq_false_iff_eq.1 h3];exact beq_self_eq_true _))
       clear hall hc
       go_wp2
       refine ⟨⟨j+1,by omega,rfl,hr,hwa⟩, ?_⟩
       simp [intOf]
       omega
      ·have hr:=Aside0.mk (Zcg (p:=Zdm x k) ho (by rw [hc.out];exact beq_eq_false_iff_ne.2 (bne_iff_ne.1 h3)))
       clear hall hc
       go_wp2
       go_ret
       exact ⟨by rw [hto.out,hr.out];rfl,hwa⟩
    ·have hr:=Aside0.mk (Zbi (p:=Zdm x k) ho hall.out (by rw [Zdm,if_neg h9,if_neg h10]))
     have d9':(o.op != 9)=true:=bne_iff_ne.2 h9
     have d10':(o.op != 10)=true:=bne_iff_ne.2 h10
     clear h9 h10 hge hall
     go_wp2
     refine ⟨⟨j+1,by omega,rfl,hr,hwa⟩, ?_⟩
     simp [intOf]
     omega
  ·have e:j=z.code.length:=by omega
   have hr:=hall.out
   rw [e,List.take_length] at hr
   have hr:=Aside0.mk hr
   clear hall
   go_wp2
   go_ret
   exact ⟨by rw [hto.out,hr.out];rfl,hb⟩
theorem Znv (x:Pln) (cs:List Value) (w:World) (gp:Nat) (hP:allK w x kPln cs) (hN:w.heap[gp]? = some (.cells cs.toArray 33 (0,0))) (h0:0≤x.nodes) (h4:x.nodes≤4) :
  Calls Tryz.prog 164 #[.agg #[.pointer (some ⟨gp,0,none⟩)]] w fun e w'=>(∃ k:Nat,e=.returned (errV ((List.range x.nodes.toNat).all (fun k:Nat=>Zci x.slots (k:Int) (-1))) 11 k))∧Below w.heap.size w w':=by
 have hw0:Below w.heap.size w (w.alloc (.cells #[.pointer (some ⟨gp,0,none⟩)] 201)):=(brf_).alloc nlr_ _
 have NV:=Zas w (.cells #[.pointer (some ⟨gp,0,none⟩)] 201)
 have NP:=Zal hN (.cells #[.pointer (some ⟨gp,0,none⟩)] 201)
 have hP0:=hP
 obtain ⟨A1,c1,A2,c2,A3,c3,A4,c4,rfl,l1,r1,l2,r2,l3,r3,l4,r4⟩:=Zcs hP
 have hn9:x.nodes.toNat<9223372036854775808:=by omega
 have q:=Zjz x.nodes.toNat 11 hn9 (fun k:Nat=>Zci x.slots (k:Int) (-1)) (.pointer (some ⟨w.heap.size,0,none⟩)) (w.alloc (.cells #[.pointer (some ⟨gp,0,none⟩)] 201)) (fun k w1 hk hb=>by
  exact Zor x _ w1 gp (Zai (hw0.trans (hb.mono hw0.size)) hP) (Zab NP hb) w.heap.size (Zab NV hb) k)
 rw [show (x.nodes.toNat:Nat)=x.nodes.toNat from rfl] at q
 have pn:=cellsP1 NP
 have hnn:((x.nodes.toNat:Nat):Int)=x.nodes:=Int.toNat_of_nonneg h0
 rw [hnn] at q
 clear hP hP0 hN NP NV
 go_enter Tryz.func164,Tryz.ntmps164
 go_wp2_with (go_at_call 195;with_reducible refine q.mono ?_;rintro e w1 ⟨⟨kk,rfl⟩,hb1⟩)
 go_ret
 exact ⟨⟨kk,rfl⟩,hw0.trans (hb1.mono hw0.size)⟩
theorem Zvh {x:Pln} (hs:x.slots.all (Zfe x)=true) (k:Nat):Zci x.slots (begins x (k:Int)) (k:Int)=Zci x.slots (-1) (k:Int):=by
 unfold Zci
 rw [List.all_eq_true] at hs
 rw [Bool.eq_iff_iff,List.any_eq_true,List.any_eq_true]
 constructor
 ·rintro ⟨s,hm,h⟩
  refine ⟨s,hm, ?_⟩
  simp only [Bool.and_eq_true] at h ⊢
  exact ⟨h.1,rfl⟩
 ·rintro ⟨s,hm,h⟩
  refine ⟨s,hm, ?_⟩
  simp only [Bool.and_eq_true] at h ⊢
  refine ⟨h.1, ?_⟩
  have h2:=hs s hm
  have hw:s.way=(k:Int):=beq_iff_eq.1 h.1
  simp only [Zfe,Bool.and_eq_true,Bool.or_eq_true] at h2
  rcases h2.2.2 with h3 | h3
  ·have:=beq_iff_eq.1 h3;omega
  ·rw [← hw,beq_iff_eq.1 h3]
   simp
theorem Zkx (x:Pln) (cs:List Value) (w:World) (gp:Nat) (hP:allK w x kPln cs) (hN:w.heap[gp]? = some (.cells cs.toArray 33 (0,0))) (hW:Zhg x) (hc:x.cells.all (Zfc x.nodes)=true) (hs:x.slots.all (Zfe x)=true) :
  Calls Tryz.prog 165 #[.agg #[.pointer (some ⟨gp,0,none⟩)]] w fun e w'=>(∃ k:Nat,e=.returned (errV ((List.range x.ways.length).all (fun k:Nat=>Zci x.slots (-1) (k:Int))) 12 k))∧Below w.heap.size w w':=by
 have hw0:Below w.heap.size w (w.alloc (.cells #[.pointer (some ⟨gp,0,none⟩)] 201)):=(brf_).alloc nlr_ _
 have NV:=Zas w (.cells #[.pointer (some ⟨gp,0,none⟩)] 201)
 have NP:=Zal hN (.cells #[.pointer (some ⟨gp,0,none⟩)] 201)
 have hP0:=hP
 obtain ⟨A1,c1,A2,c2,A3,c3,A4,c4,rfl,l1,r1,l2,r2,l3,r3,l4,r4⟩:=Zcs hP
 have hn9:x.ways.length<9223372036854775808:=by have:=Zax r2;omega
 have q:=Zir x.ways.length 12 hn9 (fun k:Nat=>Zci x.slots (-1) (k:Int)) (.pointer (some ⟨w.heap.size,0,none⟩)) (w.alloc (.cells #[.pointer (some ⟨gp,0,none⟩)] 201)) (fun k w1 hk hb=>by
  have hb0:0≤begins x (k:Int):=by
   obtain ⟨y,hy⟩:=Zar x.ways hk
   obtain ⟨j0,j1,-,-⟩:=hW _ _ hy
   obtain ⟨z,hz⟩:=Zar x.cells (show y.frm.toNat<x.cells.length by omega)
   rw [Ziz (show x.ways[((k:Nat):Int).toNat]? = some y from hy),Zdl hz]
   have h1:=Zoi hc hz
   simp only [Zfc,Bool.and_eq_true] at h1
   exact (Zeg h1.1).1
  have q:=Zmi x _ w1 gp (Zai (hw0.trans (hb.mono hw0.size)) hP) (Zab NP hb) w.heap.size (Zab NV hb) k hk hW hb0
  rw [Zvh hs] at q
  exact q)
 rw [show (x.ways.length:Nat)=x.ways.length from rfl] at q
 obtain ⟨-,-,-,-,pn⟩:=cellsP5 NP
 clear hP hP0 hN NP NV
 go_enter Tryz.func165,Tryz.ntmps165
 go_wp2_with (go_at_call 195;with_reducible refine q.mono ?_;rintro e w1 ⟨⟨kk,rfl⟩,hb1⟩)
 go_ret
 exact ⟨⟨kk,rfl⟩,hw0.trans (hb1.mono hw0.size)⟩
theorem Zkc (x:Pln) (cs:List Value) (w:World) (gp:Nat) (hP:allK w x kPln cs) (hN:w.heap[gp]? = some (.cells cs.toArray 33 (0,0))) (hT:∀ (k:Nat) (z:Cel),x.cells[k]? = some z→0≤z.node∧∃ t,x.turns[z.node.toNat]? = some t∧t.length=x.slots.length) :
  Calls Tryz.prog 167 #[.agg #[.pointer (some ⟨gp,0,none⟩)]] w fun e w'=>(∃ k:Nat,e=.returned (errV ((List.range x.cells.length).all (fun k:Nat=>Zgg x k)) 14 k))∧Below w.heap.size w w':=by
 have hw0:Below w.heap.size w (w.alloc (.cells #[.pointer (some ⟨gp,0,none⟩)] 201)):=(brf_).alloc nlr_ _
 have NV:=Zas w (.cells #[.pointer (some ⟨gp,0,none⟩)] 201)
 have NP:=Zal hN (.cells #[.pointer (some ⟨gp,0,none⟩)] 201)
 have hP0:=hP
 obtain ⟨A1,c1,A2,c2,A3,c3,A4,c4,rfl,l1,r1,l2,r2,l3,r3,l4,r4⟩:=Zcs hP
 have hn9:x.cells.length<9223372036854775808:=by have:=Zax r1;omega
 have q:=Zij x.cells.length 14 hn9 (fun k:Nat=>Zgg x k) (.pointer (some ⟨w.heap.size,0,none⟩)) (w.alloc (.cells #[.pointer (some ⟨gp,0,none⟩)] 201)) (fun k w1 hk hb=>by
  obtain ⟨z,hz⟩:=Zar x.cells hk
  obtain ⟨hz0,t,ht,-⟩:=hT k z hz
  exact Zkw x _ w1 gp (Zai (hw0.trans (hb.mono hw0.size)) hP) (Zab NP hb) w.heap.size (Zab NV hb) k z hz hz0 t ht)
 rw [show (x.cells.length:Nat)=x.cells.length from rfl] at q
 obtain ⟨-,-,-,pn⟩:=cellsP4 NP
 clear hP hP0 hN NP NV
 go_enter Tryz.func167,Tryz.ntmps167
 go_wp2_with (go_at_call 195;with_reducible refine q.mono ?_;rintro e w1 ⟨⟨kk,rfl⟩,hb1⟩)
 go_ret
 exact ⟨⟨kk,rfl⟩,hw0.trans (hb1.mono hw0.size)⟩
theorem Zky (x:Pln) (cs:List Value) (w:World) (gp:Nat) (hP:allK w x kPln cs) (hN:w.heap[gp]? = some (.cells cs.toArray 33 (0,0))) (hA0:∀ (k:Nat) (z:Cel),x.cells[k]? = some z→∀ (j:Nat) (o:Ord),z.code[j]? = some o→(o.op=9∨o.op=10)→0≤o.a) :
  Calls Tryz.prog 168 #[.agg #[.pointer (some ⟨gp,0,none⟩)]] w fun e w'=>(∃ k:Nat,e=.returned (errV ((List.range x.cells.length).all (fun k:Nat=>Zfs x k)) 15 k))∧Below w.heap.size w w':=by
 have hw0:Below w.heap.size w (w.alloc (.cells #[.pointer (some ⟨gp,0,none⟩)] 201)):=(brf_).alloc nlr_ _
 have NV:=Zas w (.cells #[.pointer (some ⟨gp,0,none⟩)] 201)
 have NP:=Zal hN (.cells #[.pointer (some ⟨gp,0,none⟩)] 201)
 have hP0:=hP
 obtain ⟨A1,c1,A2,c2,A3,c3,A4,c4,rfl,l1,r1,l2,r2,l3,r3,l4,r4⟩:=Zcs hP
 have hn9:x.cells.length<9223372036854775808:=by have:=Zax r1;omega
 have q:=Zis x.cells.length 15 hn9 (fun k:Nat=>Zfs x k) (.pointer (some ⟨w.heap.size,0,none⟩)) (w.alloc (.cells #[.pointer (some ⟨gp,0,none⟩)] 201)) (fun k w1 hk hb=>by
  obtain ⟨z,hz⟩:=Zar x.cells hk
  exact Zmj x _ w1 gp (Zai (hw0.trans (hb.mono hw0.size)) hP) (Zab NP hb) w.heap.size (Zab NV hb) k z hz (hA0 k z hz))
 rw [show (x.cells.length:Nat)=x.cells.length from rfl] at q
 obtain ⟨-,-,-,pn⟩:=cellsP4 NP
 clear hP hP0 hN NP NV
 go_enter Tryz.func168,Tryz.ntmps168
 go_wp2_with (go_at_call 195;with_reducible refine q.mono ?_;rintro e w1 ⟨⟨kk,rfl⟩,hb1⟩)
 go_ret
 exact ⟨⟨kk,rfl⟩,hw0.trans (hb1.mono hw0.size)⟩
theorem Zos (x:Pln) (cs:List Value) (w:World) (gp:Nat) (hP:allK w x kPln cs) (hN:w.heap[gp]? = some (.cells cs.toArray 33 (0,0))) (h0:0≤x.nodes) (h4:x.nodes≤4) :
  Calls Tryz.prog 166 #[.agg #[.pointer (some ⟨gp,0,none⟩)]] w fun e w'=>(∃ k:Nat,e=.returned (errV (plan13 x) 13 k))∧Below w.heap.size w w':=by
 have hw0:Below w.heap.size w (w.alloc (.cells #[.pointer (some ⟨gp,0,none⟩)] 201)):=(brf_).alloc nlr_ _
 have NV:=Zas w (.cells #[.pointer (some ⟨gp,0,none⟩)] 201)
 have NP:=Zal hN (.cells #[.pointer (some ⟨gp,0,none⟩)] 201)
 obtain ⟨A1,c1,A2,c2,A3,c3,A4,c4,rfl,l1,r1,l2,r2,l3,r3,l4,r4⟩:=Zcs hP
 have hm:=Zax r4
 obtain ⟨pn,-,-,-,-,-,p6⟩:=cellsP7 NP
 have pv:=cellsP1 NV
 have hnn:((x.nodes.toNat:Nat):Int)=x.nodes:=Int.toNat_of_nonneg h0
 go_enter Tryz.func166,Tryz.ntmps166
 go_upto_region 1 with (fail)
 change Code.wp _ _ _ _ (w.alloc (.cells #[.pointer (some ⟨gp,0,none⟩)] 201))
 generalize hWe:w.alloc (.cells #[.pointer (some ⟨gp,0,none⟩)] 201)=W at *
 clear hWe
 cases hl:((x.turns.length:Int) != x.nodes)
 ·have hle:(x.turns.length:Int)=x.nodes:=bne_eq_false_iff_eq.1 hl
  have hpl:Aside0 (plan13 x=(List.range x.nodes.toNat).all fun k:Nat=>Zfn x k):=⟨by rw [plan13,decide_eq_true hle,Bool.true_and]⟩
  go_quiet (fail)
  rename_i nq
  replace hw0:=Zay hw0 nq
  replace NV:=Zdy NV nq
  replace NP:=Zdy NP nq
  clear pn p6 pv
  generalize W.drewN nq=W2 at *
  have q:=Zkt x.nodes.toNat 13 (by omega) (fun k:Nat=>Zfn x k) (.pointer (some ⟨w.heap.size,0,none⟩)) W2 (fun k w1 hk hb=>by
   obtain ⟨t,ht⟩:=Zar x.turns (show k<x.turns.length by omega)
   exact Zqu x _ w1 gp (Zai (hw0.trans (hb.mono hw0.size)) hP) (Zab NP hb) w.heap.size (Zab NV hb) k t ht)
  rw [hnn] at q
  have pn:=cellsP1 NP
  have pv:=cellsP1 NV
  clear hl hle hnn hP NP NV hN
  go_wp2_with (go_at_call 195;with_reducible refine q.mono ?_;rintro e w1 ⟨⟨kk,rfl⟩,hb1⟩)
  go_ret
  exact ⟨⟨kk,by rw [hpl.out];rfl⟩,hw0.trans (hb1.mono hw0.size)⟩
 ·have hr:Aside0 (plan13 x=false):=⟨by rw [plan13,decide_eq_false (bne_iff_ne.1 hl),Bool.false_and]⟩
  go_quiet (fail)
  rename_i nq
  go_wp2
  go_ret
  exact ⟨⟨0,by rw [hr.out];rfl⟩,Zay hw0 nq⟩
end Go.Proofs.YtaeckoinpllpnaaGreat
