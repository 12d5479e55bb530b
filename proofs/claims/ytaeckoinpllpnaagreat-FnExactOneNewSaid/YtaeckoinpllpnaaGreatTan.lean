/- Part 14 of the proof of its last text: this session's own texts, shortened and joined by a program of its own (wip/pack.py). -/
import Derived.Test.YtaeckoinpllpnaaGreatTag
import Derived.Test.YtaeckoinpllpnaaGreatTam
import Derived.Test.YtaeckoinpllpnaaGreatTaa
import Derived.Test.YtaeckoinpllpnaaGreatTaf
import Derived.Deep.QuietTactic
import Derived.BigQuiet
set_option linter.unusedVariables false
set_option linter.unusedSimpArgs false
set_option maxHeartbeats 16000000
set_option maxRecDepth 100000
namespace Go.Proofs.YtaeckoinpllpnaaGreat
open Go.RowKit Go.Proofs.YtaeckoinpllpnaaGreatW.PrintWords
theorem Zep (o:Ord) (w:World) :
  Calls Tryz.prog 230 #[.agg #[.int .i64 o.op,.int .i64 o.a,.int .i64 o.b,.int .i64 o.c]] w fun e w'=>e=.returned (.bool (Zeb o))∧Below w.heap.size w w':=by
 by_cases hc:1≤o.op∧o.op≤14
 ·obtain ⟨h0,h1⟩:=hc
  have hin:inB o.op 1 14=true:=by simp [inB];omega
  have hc:o.op=1∨o.op=2∨o.op=3∨o.op=4∨o.op=5∨o.op=6∨o.op=7∨o.op=8∨o.op=9∨o.op=10∨o.op=11∨o.op=12∨o.op=13∨o.op=14:=by omega
  rcases hc with h | h | h | h | h | h | h | h | h | h | h | h | h | h
  ·refine (Zmg o w h0 h1 (by simp [Zdv,h])).mono ?_
   rintro e w1 ⟨rfl,hb⟩
   exact ⟨by rw [Zeb,hin,h];rfl,hb⟩
  ·refine (Zdk o w h0 h1 (by simp [Zdv,h])).mono ?_
   rintro e w1 ⟨rfl,hb⟩
   exact ⟨by rw [Zeb,hin,h];rfl,hb⟩
  ·refine (Zdk o w h0 h1 (by simp [Zdv,h])).mono ?_
   rintro e w1 ⟨rfl,hb⟩
   exact ⟨by rw [Zeb,hin,h];rfl,hb⟩
  ·refine (Zdk o w h0 h1 (by simp [Zdv,h])).mono ?_
   rintro e w1 ⟨rfl,hb⟩
   exact ⟨by rw [Zeb,hin,h];rfl,hb⟩
  ·refine (Zkv o w h0 h1 (by simp [Zdv,h])).mono ?_
   rintro e w1 ⟨rfl,hb⟩
   exact ⟨by rw [Zeb,hin,h];rfl,hb⟩
  ·refine (Zdk o w h0 h1 (by simp [Zdv,h])).mono ?_
   rintro e w1 ⟨rfl,hb⟩
   exact ⟨by rw [Zeb,hin,h];rfl,hb⟩
  ·refine (Zdk o w h0 h1 (by simp [Zdv,h])).mono ?_
   rintro e w1 ⟨rfl,hb⟩
   exact ⟨by rw [Zeb,hin,h];rfl,hb⟩
  ·refine (Zmh o w h0 h1 (by simp [Zdv,h])).mono ?_
   rintro e w1 ⟨rfl,hb⟩
   exact ⟨by rw [Zeb,hin,h];rfl,hb⟩
  ·refine (Zhh o w h0 h1 (by simp [Zdv,h])).mono ?_
   rintro e w1 ⟨rfl,hb⟩
   exact ⟨by rw [Zeb,hin,h];rfl,hb⟩
  ·refine (Zhh o w h0 h1 (by simp [Zdv,h])).mono ?_
   rintro e w1 ⟨rfl,hb⟩
   exact ⟨by rw [Zeb,hin,h];rfl,hb⟩
  ·refine (Zdk o w h0 h1 (by simp [Zdv,h])).mono ?_
   rintro e w1 ⟨rfl,hb⟩
   exact ⟨by rw [Zeb,hin,h];rfl,hb⟩
  ·refine (Znu o w h0 h1 (by simp [Zdv,h])).mono ?_
   rintro e w1 ⟨rfl,hb⟩
   exact ⟨by rw [Zeb,hin,h];rfl,hb⟩
  ·refine (Zgr o w h0 h1 (by simp [Zdv,h])).mono ?_
   rintro e w1 ⟨rfl,hb⟩
   exact ⟨by rw [Zeb,hin,h];rfl,hb⟩
  ·refine (Zgr o w h0 h1 (by simp [Zdv,h])).mono ?_
   rintro e w1 ⟨rfl,hb⟩
   exact ⟨by rw [Zeb,hin,h];rfl,hb⟩
 ·have hin:inB o.op 1 14=false:=by simp [inB];omega
  have hok:=fun w=>Zcn o.op w
  rw [hin] at hok
  have hb0:Below w.heap.size w (w.alloc (.cells #[.int .i64 o.op,.int .i64 o.a,.int .i64 o.b,.int .i64 o.c] 181)):=(brf_).alloc nlr_ _
  go_enter Tryz.func230,Tryz.ntmps230
  go_wp2_with (go_at_call 239;refine (hok _).mono ?_;rintro e w1 ⟨rfl,rfl⟩)
  go_ret
  exact ⟨by rw [Zeb,hin];rfl,hb0⟩
theorem Zsh (A:Option Addr) (c:Nat) (xs:List Ord) (w:World) (hA:Rd kOrd w A xs) :
  Calls Tryz.prog 198 #[.slice A xs.length c] w fun e w'=>e=.returned (.bool (Zkn xs))∧Below w.heap.size w w':=by
 have hm:=Zax hA
 by_cases h4:xs.length≤24
 ·have hg4:decide (xs.length≤24)=true:=decide_eq_true h4
  go_enter Tryz.func198,Tryz.ntmps198
  go_wp2
  go_loopw [10] (fun i wr=>∃ k:Nat,k≤xs.length∧i=.int .i64 k∧Aside0 ((xs.take k).all (Zib xs.length)=true)∧Below w.heap.size w wr) (fun i _=>xs.length-(intOf i).toNat)
  case atStart=>exact ⟨0,Nat.zero_le _,rfl,⟨rfl⟩,brf_⟩
  case round =>
   obtain ⟨k,hk,rfl,hall,hb⟩:=hrel
   by_cases hlt:k<xs.length
   ·obtain ⟨x,hx⟩:=Zar xs hlt
    obtain ⟨ad,rfl,a0,a1,a2,a3⟩:=Zog (Zac hA hb) hx
    cases h1:Zeb x
    ·have hin:Aside0 (Zib xs.length x=false):=⟨by rw [Zib,h1];rfl⟩
     go_wp2_with (go_at_call 230;have hcon:=Zep x;refine (hcon _).mono ?_;rintro e w1 ⟨rfl,hb1⟩;rw [show Zeb x=false from h1];have hb2:=(hb.alloc hb.size (.cells #[.int .i64 x.op,.int .i64 x.a,.int .i64 x.b,.int .i64 x.c] 181)).trans (hb1.mono (hb.alloc hb.size _).size);have Nx:=Zab (Zas wr (.cells #[.int .i64 x.op,.int .i64 x.a,.int .i64 x.b,.int .i64 x.c] 181)) hb1;have y0:w1.cell? ⟨wr.heap.size,0,none⟩=some (.int .i64 x.op):=Zag Nx rfl;have y1:w1.cell? ⟨wr.heap.size,1,none⟩=some (.int .i64 x.a):=Zag Nx rfl)
     go_ret
     exact ⟨by rw [Zkn,Zcg hx hin.out,Bool.and_false];rfl,hb2⟩
    ·by_cases h2:x.op=8
     ·by_cases h3:(xs.length:Int)<x.a
      ·have hin:Aside0 (Zib xs.length x=false):=⟨by rw [Zib,h1,decide_eq_true h3,h2];rfl⟩
       have d2:(x.op==8)=true:=by rw [h2];rfl
       have d3:=decide_eq_true h3
       clear h2
       go_wp2_with (go_at_call 230;have hcon:=Zep x;refine (hcon _).mono ?_;rintro e w1 ⟨rfl,hb1⟩;rw [show Zeb x=true from h1];have hb2:=(hb.alloc hb.size (.cells #[.int .i64 x.op,.int .i64 x.a,.int .i64 x.b,.int .i64 x.c] 181)).trans (hb1.mono (hb.alloc hb.size _).size);have Nx:=Zab (Zas wr (.cells #[.int .i64 x.op,.int .i64 x.a,.int .i64 x.b,.int .i64 x.c] 181)) hb1;have y0:w1.cell? ⟨wr.heap.size,0,none⟩=some (.int .i64 x.op):=Zag Nx rfl;have y1:w1.cell? ⟨wr.heap.size,1,none⟩=some (.int .i64 x.a):=Zag Nx rfl)
       go_ret
       exact ⟨by rw [Zkn,Zcg hx hin.out,Bool.and_false];rfl,hb2⟩
      ·have hin:Aside0 (Zib xs.length x=true):=⟨by rw [Zib,h1,decide_eq_false h3,h2];rfl⟩
       have d2:(x.op==8)=true:=by rw [h2];rfl
       have d3:=decide_eq_false h3
       clear h2
       go_wp2_with (go_at_call 230;have hcon:=Zep x;refine (hcon _).mono ?_;rintro e w1 ⟨rfl,hb1⟩;rw [show Zeb x=true from h1];have hb2:=(hb.alloc hb.size (.cells #[.int .i64 x.op,.int .i64 x.a,.int .i64 x.b,.int .i64 x.c] 181)).trans (hb1.mono (hb.alloc hb.size _).size);have Nx:=Zab (Zas wr (.cells #[.int .i64 x.op,.int .i64 x.a,.int .i64 x.b,.int .i64 x.c] 181)) hb1;have y0:w1.cell? ⟨wr.heap.size,0,none⟩=some (.int .i64 x.op):=Zag Nx rfl;have y1:w1.cell? ⟨wr.heap.size,1,none⟩=some (.int .i64 x.a):=Zag Nx rfl)
       refine ⟨⟨k+1,by omega,rfl,⟨Zbi hx hall.out hin.out⟩,hb2⟩, ?_⟩
       simp [intOf]
       omega
     ·have d2:(x.op==8)=false:=beq_eq_false_iff_ne.2 h2
      have hin:Aside0 (Zib xs.length x=true):=⟨by rw [Zib,h1,d2];rfl⟩
      clear h2
      go_wp2_with (go_at_call 230;have hcon:=Zep x;refine (hcon _).mono ?_;rintro e w1 ⟨rfl,hb1⟩;rw [show Zeb x=true from h1];have hb2:=(hb.alloc hb.size (.cells #[.int .i64 x.op,.int .i64 x.a,.int .i64 x.b,.int .i64 x.c] 181)).trans (hb1.mono (hb.alloc hb.size _).size);have Nx:=Zab (Zas wr (.cells #[.int .i64 x.op,.int .i64 x.a,.int .i64 x.b,.int .i64 x.c] 181)) hb1;have y0:w1.cell? ⟨wr.heap.size,0,none⟩=some (.int .i64 x.op):=Zag Nx rfl;have y1:w1.cell? ⟨wr.heap.size,1,none⟩=some (.int .i64 x.a):=Zag Nx rfl)
      refine ⟨⟨k+1,by omega,rfl,⟨Zbi hx hall.out hin.out⟩,hb2⟩, ?_⟩
      simp [intOf]
      omega
   ·have e:k=xs.length:=by omega
    subst e
    have hall:=hall.out
    rw [List.take_length] at hall
    have hall:=Aside0.mk hall
    go_wp2
    go_ret
    exact ⟨by rw [Zkn,hall.out,hg4];rfl,hb⟩
 ·have hg4:decide (xs.length≤24)=false:=decide_eq_false h4
  have h5:(24:Int)<(xs.length:Int):=by omega
  go_enter Tryz.func198,Tryz.ntmps198
  go_wp2
  go_ret
  exact ⟨by rw [Zkn,hg4];rfl,brf_⟩
end Go.Proofs.YtaeckoinpllpnaaGreat
namespace Go.Proofs.YtaeckoinpllpnaaGreat
open Go.RowKit Go.Proofs.YtaeckoinpllpnaaGreatW.PrintWords Go.Proofs.YtaeckoinpllpnaaGreatW.PrintLast
theorem Zqq (x:Pln) (cs:List Value) (w:World) (gp:Nat) (hP:allK w x kPln cs) (hN:w.heap[gp]? = some (.cells cs.toArray 33 (0,0))) (gv:Nat) (hV:w.heap[gv]? = some (.cells #[.pointer (some ⟨gp,0,none⟩)] 201 (0,0))) (k:Nat) (y:Cel) (hy:x.cells[k]? = some y) :
  Calls Tryz.prog 196 #[.int .i64 k,.pointer (some ⟨gv,0,none⟩)] w fun e w'=>e=.returned (.bool (!(Zfc x.nodes y)))∧Below w.heap.size w w':=by
 obtain ⟨A1,c1,A2,c2,A3,c3,A4,c4,rfl,l1,r1,l2,r2,l3,r3,l4,r4⟩:=Zcs hP
 have hm:=Zax r1
 have hkl:=(List.getElem?_eq_some_iff.1 hy).1
 obtain ⟨ad,B1,d1,rfl,y0,y1,y2,y3,y4,m1,s1⟩:=Zed r1 hy
 obtain ⟨W,eW,hw0,Ny⟩:=new1 w (.cells #[.int .i64 y.node,.int .i64 y.lvl,.int .i64 y.marks,.bool y.again,.slice B1 y.code.length d1] 107)
 have NV:=Zab hV hw0
 have NP:=Zab hN hw0
 have pv:=cellsP1 hV
 obtain ⟨-,-,-,p3⟩:=cellsP4 hN
 have q1:=fun w=>Zcv y.node x.nodes w
 have q2:=fun w=>Zdo y.lvl y.marks w
 have q3:=fun w h=>Zsh B1 d1 y.code w h
 have hc:Zfc x.nodes y=(hasP y.node x.nodes&&(Zhl y.lvl y.marks&&Zkn y.code)):=by rw [Zfc,Zma]
 go_enter Tryz.func196,Tryz.ntmps196
 go_upto_region 2 with (fail)
 refine wp_at eW ?_
 clear eW
 have hwd:=Zat hw0
 replace Ny:=Zdb Ny
 replace NV:=Zdb NV
 replace NP:=Zdb NP
 cases h1:hasP y.node x.nodes
 ·rw [h1] at q1 hc
  have hr:Aside0 (Zfc x.nodes y=false):=⟨hc⟩
  clear h1 hc
  refine Zfm (n:=22) (S:=fun w'=>w'.cell? ⟨w.heap.size,0,none⟩=some (.int .i64 y.node)∧w'.cell? ⟨w.heap.size,1,none⟩=some (.int .i64 y.lvl)∧w'.cell? ⟨w.heap.size,2,none⟩=some (.int .i64 y.marks)∧w'.cell? ⟨w.heap.size,3,none⟩=some (.bool y.again)∧w'.cell? ⟨w.heap.size,4,none⟩=some (.slice B1 y.code.length d1)∧w'.cell? ⟨gv,0,none⟩=some (.pointer (some ⟨gp,0,none⟩))∧w'.cell? ⟨gp,0,none⟩=some (.int .i64 x.nodes)) (ds:=[]) (upB 22 0) (by kernel_rfl) rfl rfl ⟨Zag Ny rfl,Zag Ny rfl,Zag Ny rfl,Zag Ny rfl,Zag Ny rfl,Zag NV rfl,Zag NP rfl⟩ (fun hHeld=>?_)
  generalize W.drew=Wd at *
  refine Zap (i:=0) (N:=some 13) (upB 22 1) rfl rfl (by kernel_rfl) (fun _ _ _ h=>h) (Or.inl ⟨by rfl,fun w'=>by go_simp;with_reducible rfl⟩) (by simp only [Act.put,pkA,pkB,pkC];rfl) ?_
  refine Zbz (i:=1) (N:=some 14) (upB 22 2) rfl rfl (by kernel_rfl) (fun _ _ _ h=>h) (Or.inl ⟨by rfl,by rintro w' ⟨s0,s1,s2,s3,s4,s5,s6⟩;go_simp;with_reducible rfl⟩) hHeld (by simp only [Act.put,pkA,pkB,pkC];rfl) ?_
  refine Zap (i:=2) (N:=some 15) (upB 22 3) rfl rfl (by kernel_rfl) (fun _ _ _ h=>h) (Or.inl ⟨by rfl,fun w'=>by go_simp;with_reducible rfl⟩) (by simp only [Act.put,pkA,pkB,pkC];rfl) ?_
  refine Zbz (i:=3) (N:=some 16) (upB 22 4) rfl rfl (by kernel_rfl) (fun _ _ _ h=>h) (Or.inl ⟨by rfl,by rintro w' ⟨s0,s1,s2,s3,s4,s5,s6⟩;go_simp;with_reducible rfl⟩) hHeld (by simp only [Act.put,pkA,pkB,pkC];rfl) ?_
  refine Zap (i:=4) (N:=some 17) (upB 22 5) rfl rfl (by kernel_rfl) (fun _ _ _ h=>h) (Or.inl ⟨by rfl,fun w'=>by go_simp;with_reducible rfl⟩) (by simp only [Act.put,pkA,pkB,pkC];rfl) ?_
  refine Zap (i:=5) (N:=some 18) (upB 22 6) rfl rfl (by kernel_rfl) (fun _ _ _ h=>h) (Or.inl ⟨by rfl,fun w'=>by go_simp;with_reducible rfl⟩) (by simp only [Act.put,pkA,pkB,pkC];rfl) ?_
  refine Zbz (i:=6) (N:=some 19) (upB 22 7) rfl rfl (by kernel_rfl) (fun _ _ _ h=>h) (Or.inl ⟨by rfl,by rintro w' ⟨s0,s1,s2,s3,s4,s5,s6⟩;go_simp;with_reducible rfl⟩) hHeld (by simp only [Act.put,pkA,pkB,pkC];rfl) ?_
  refine one_ (i:=7) (N:=some 20) (upB 22 8) rfl rfl (by kernel_rfl) (by decide) (fun K hK=>?_)
  refine Zfw Tryz.func186 (by kernel_rfl) rfl #[.int .i64 y.node,.int .i64 x.nodes] (by rfl) rfl rfl (by (try simp only [List.map_toArray,List.map_cons,List.map_nil]);first | done | rfl) ?_
  with_reducible refine (q1 _).mono ?_
  rintro e w1 ⟨rfl,rfl⟩
  refine ⟨_,rfl, ?_⟩
  refine hK.out _ _ ⟨hHeld.1,hHeld.2.1,hHeld.2.2.1,hHeld.2.2.2.1,hHeld.2.2.2.2.1,hHeld.2.2.2.2.2.1,hHeld.2.2.2.2.2.2⟩ (fun hHeld=>?_)
  clear hK K
  refine Zbb (a':=?_) ?_ ?_
  rotate_left
  ·show Act.put _ (some 20) _=_
   simp only [Act.put,pkA,pkB,pkC]
   rfl
  refine Zap (i:=8) (N:=some 21) (upB 22 9) rfl rfl (by kernel_rfl) (fun _ _ _ h=>h) (Or.inl ⟨by rfl,fun w'=>by go_simp;with_reducible rfl⟩) (by simp only [Act.put,pkA,pkB,pkC];rfl) ?_
  refine Zap (i:=9) (N:=some 22) (upB 22 10) rfl rfl (by kernel_rfl) (fun _ _ _ h=>h) (Or.inl ⟨by rfl,fun w'=>by go_simp;with_reducible rfl⟩) (by simp only [Act.put,pkA,pkB,pkC];rfl) ?_
  refine Zap (i:=10) (N:=some 23) (v:=undef) (upB 22 11) rfl rfl (by kernel_rfl) (fun _ _ _ h=>h) (Or.inr ⟨by rfl,rfl⟩) (by simp only [Act.put,pkA,pkB,pkC];rfl) ?_
  refine Zap (i:=11) (N:=some 24) (v:=undef) (upB 22 12) rfl rfl (by kernel_rfl) (fun _ _ _ h=>h) (Or.inr ⟨by rfl,rfl⟩) (by simp only [Act.put,pkA,pkB,pkC];rfl) ?_
  refine Zap (i:=12) (N:=some 25) (v:=undef) (upB 22 13) rfl rfl (by kernel_rfl) (fun _ _ _ h=>h) (Or.inr ⟨by rfl,rfl⟩) (by simp only [Act.put,pkA,pkB,pkC];rfl) ?_
  refine Zap (i:=13) (N:=some 26) (v:=undef) (upB 22 14) rfl rfl (by kernel_rfl) (fun _ _ _ h=>h) (Or.inr ⟨by rfl,rfl⟩) (by simp only [Act.put,pkA,pkB,pkC];rfl) ?_
  refine Zap (i:=14) (N:=some 27) (upB 22 15) rfl rfl (by kernel_rfl) (fun _ _ _ h=>h) (Or.inl ⟨by rfl,fun w'=>by go_simp;with_reducible rfl⟩) (by simp only [Act.put,pkA,pkB,pkC];rfl) ?_
  refine Zap (i:=15) (N:=some 28) (upB 22 16) rfl rfl (by kernel_rfl) (fun _ _ _ h=>h) (Or.inl ⟨by rfl,fun w'=>by go_simp;with_reducible rfl⟩) (by simp only [Act.put,pkA,pkB,pkC];rfl) ?_
  refine Zap (i:=16) (N:=some 29) (v:=undef) (upB 22 17) rfl rfl (by kernel_rfl) (fun _ _ _ h=>h) (Or.inr ⟨by rfl,rfl⟩) (by simp only [Act.put,pkA,pkB,pkC];rfl) ?_
  refine Zap (i:=17) (N:=some 30) (v:=undef) (upB 22 18) rfl rfl (by kernel_rfl) (fun _ _ _ h=>h) (Or.inr ⟨by rfl,rfl⟩) (by simp only [Act.put,pkA,pkB,pkC];rfl) ?_
  refine Zap (i:=18) (N:=some 31) (v:=undef) (upB 22 19) rfl rfl (by kernel_rfl) (fun _ _ _ h=>h) (Or.inr ⟨by rfl,rfl⟩) (by simp only [Act.put,pkA,pkB,pkC];rfl) ?_
  refine Zap (i:=19) (N:=some 32) (v:=undef) (upB 22 20) rfl rfl (by kernel_rfl) (fun _ _ _ h=>h) (Or.inr ⟨by rfl,rfl⟩) (by simp only [Act.put,pkA,pkB,pkC];rfl) ?_
  refine Zap (i:=20) (N:=some 33) (upB 22 21) rfl rfl (by kernel_rfl) (fun _ _ _ h=>h) (Or.inl ⟨by rfl,fun w'=>by go_simp;with_reducible rfl⟩) (by simp only [Act.put,pkA,pkB,pkC];rfl) ?_
  refine Zap (i:=21) (N:=some 3) (upB 22 22) rfl rfl (by kernel_rfl) (fun _ _ _ h=>h) (Or.inl ⟨by rfl,fun w'=>by go_simp;with_reducible rfl⟩) (by simp only [Act.put,pkA,pkB,pkC];rfl) ?_
  refine Zgw (by kernel_rfl) ?_
  go_wp2
  go_ret
  exact ⟨by rw [hr.out];rfl,hwd⟩
 ·rw [h1] at q1 hc
  cases h2:Zhl y.lvl y.marks
  ·rw [h2] at q2 hc
   have hr:Aside0 (Zfc x.nodes y=false):=⟨hc⟩
   clear h1 h2 hc
   refine Zfm (n:=22) (S:=fun w'=>w'.cell? ⟨w.heap.size,0,none⟩=some (.int .i64 y.node)∧w'.cell? ⟨w.heap.size,1,none⟩=some (.int .i64 y.lvl)∧w'.cell? ⟨w.heap.size,2,none⟩=some (.int .i64 y.marks)∧w'.cell? ⟨w.heap.size,3,none⟩=some (.bool y.again)∧w'.cell? ⟨w.heap.size,4,none⟩=some (.slice B1 y.code.length d1)∧w'.cell? ⟨gv,0,none⟩=some (.pointer (some ⟨gp,0,none⟩))∧w'.cell? ⟨gp,0,none⟩=some (.int .i64 x.nodes)) (ds:=[]) (upB 22 0) (by kernel_rfl) rfl rfl ⟨Zag Ny rfl,Zag Ny rfl,Zag Ny rfl,Zag Ny rfl,Zag Ny rfl,Zag NV rfl,Zag NP rfl⟩ (fun hHeld=>?_)
   generalize W.drew=Wd at *
   refine Zap (i:=0) (N:=some 13) (upB 22 1) rfl rfl (by kernel_rfl) (fun _ _ _ h=>h) (Or.inl ⟨by rfl,fun w'=>by go_simp;with_reducible rfl⟩) (by simp only [Act.put,pkA,pkB,pkC];rfl) ?_
   refine Zbz (i:=1) (N:=some 14) (upB 22 2) rfl rfl (by kernel_rfl) (fun _ _ _ h=>h) (Or.inl ⟨by rfl,by rintro w' ⟨s0,s1,s2,s3,s4,s5,s6⟩;go_simp;with_reducible rfl⟩) hHeld (by simp only [Act.put,pkA,pkB,pkC];rfl) ?_
   refine Zap (i:=2) (N:=some 15) (upB 22 3) rfl rfl (by kernel_rfl) (fun _ _ _ h=>h) (Or.inl ⟨by rfl,fun w'=>by go_simp;with_reducible rfl⟩) (by simp only [Act.put,pkA,pkB,pkC];rfl) ?_
   refine Zbz (i:=3) (N:=some 16) (upB 22 4) rfl rfl (by kernel_rfl) (fun _ _ _ h=>h) (Or.inl ⟨by rfl,by rintro w' ⟨s0,s1,s2,s3,s4,s5,s6⟩;go_simp;with_reducible rfl⟩) hHeld (by simp only [Act.put,pkA,pkB,pkC];rfl) ?_
   refine Zap (i:=4) (N:=some 17) (upB 22 5) rfl rfl (by kernel_rfl) (fun _ _ _ h=>h) (Or.inl ⟨by rfl,fun w'=>by go_simp;with_reducible rfl⟩) (by simp only [Act.put,pkA,pkB,pkC];rfl) ?_
   refine Zap (i:=5) (N:=some 18) (upB 22 6) rfl rfl (by kernel_rfl) (fun _ _ _ h=>h) (Or.inl ⟨by rfl,fun w'=>by go_simp;with_reducible rfl⟩) (by simp only [Act.put,pkA,pkB,pkC];rfl) ?_
   refine Zbz (i:=6) (N:=some 19) (upB 22 7) rfl rfl (by kernel_rfl) (fun _ _ _ h=>h) (Or.inl ⟨by rfl,by rintro w' ⟨s0,s1,s2,s3,s4,s5,s6⟩;go_simp;with_reducible rfl⟩) hHeld (by simp only [Act.put,pkA,pkB,pkC];rfl) ?_
   refine one_ (i:=7) (N:=some 20) (upB 22 8) rfl rfl (by kernel_rfl) (by decide) (fun K hK=>?_)
   refine Zfw Tryz.func186 (by kernel_rfl) rfl #[.int .i64 y.node,.int .i64 x.nodes] (by rfl) rfl rfl (by (try simp only [List.map_toArray,List.map_cons,List.map_nil]);first | done | rfl) ?_
   with_reducible refine (q1 _).mono ?_
   rintro e w1 ⟨rfl,rfl⟩
   refine ⟨_,rfl, ?_⟩
   refine hK.out _ _ ⟨hHeld.1,hHeld.2.1,hHeld.2.2.1,hHeld.2.2.2.1,hHeld.2.2.2.2.1,hHeld.2.2.2.2.2.1,hHeld.2.2.2.2.2.2⟩ (fun hHeld=>?_)
   clear hK K
   refine Zbb (a':=?_) ?_ ?_
   rotate_left
   ·show Act.put _ (some 20) _=_
    simp only [Act.put,pkA,pkB,pkC]
    rfl
   refine Zap (i:=8) (N:=some 21) (upB 22 9) rfl rfl (by kernel_rfl) (fun _ _ _ h=>h) (Or.inl ⟨by rfl,fun w'=>by go_simp;with_reducible rfl⟩) (by simp only [Act.put,pkA,pkB,pkC];rfl) ?_
   refine Zap (i:=9) (N:=some 22) (upB 22 10) rfl rfl (by kernel_rfl) (fun _ _ _ h=>h) (Or.inl ⟨by rfl,fun w'=>by go_simp;with_reducible rfl⟩) (by simp only [Act.put,pkA,pkB,pkC];rfl) ?_
   refine Zap (i:=10) (N:=some 23) (upB 22 11) rfl rfl (by kernel_rfl) (fun _ _ _ h=>h) (Or.inl ⟨by rfl,fun w'=>by go_simp;with_reducible rfl⟩) (by simp only [Act.put,pkA,pkB,pkC];rfl) ?_
   refine Zbz (i:=11) (N:=some 24) (upB 22 12) rfl rfl (by kernel_rfl) (fun _ _ _ h=>h) (Or.inl ⟨by rfl,by rintro w' ⟨s0,s1,s2,s3,s4,s5,s6⟩;go_simp;with_reducible rfl⟩) hHeld (by simp only [Act.put,pkA,pkB,pkC];rfl) ?_
   refine one_ (i:=12) (N:=some 25) (upB 22 13) rfl rfl (by kernel_rfl) (by decide) (fun K hK=>?_)
   refine Zfw Tryz.func197 (by kernel_rfl) rfl #[.agg #[.int .i64 y.lvl,.int .i64 y.marks]] (by rfl) rfl rfl (by (try simp only [List.map_toArray,List.map_cons,List.map_nil]);first | done | rfl) ?_
   with_reducible refine (q2 _).mono ?_
   rintro e w2 ⟨rfl,hb2⟩
   refine ⟨_,rfl, ?_⟩
   refine hK.out _ _ ⟨Zaa hb2 hHeld.1,Zaa hb2 hHeld.2.1,Zaa hb2 hHeld.2.2.1,Zaa hb2 hHeld.2.2.2.1,Zaa hb2 hHeld.2.2.2.2.1,Zaa hb2 hHeld.2.2.2.2.2.1,Zaa hb2 hHeld.2.2.2.2.2.2⟩ (fun hHeld=>?_)
   clear hK K
   refine Zbb (a':=?_) ?_ ?_
   rotate_left
   ·show Act.put _ (some 25) _=_
    simp only [Act.put,pkA,pkB,pkC]
    rfl
   refine Zap (i:=13) (N:=some 26) (upB 22 14) rfl rfl (by kernel_rfl) (fun _ _ _ h=>h) (Or.inl ⟨by rfl,fun w'=>by go_simp;with_reducible rfl⟩) (by simp only [Act.put,pkA,pkB,pkC];rfl) ?_
   refine Zap (i:=14) (N:=some 27) (upB 22 15) rfl rfl (by kernel_rfl) (fun _ _ _ h=>h) (Or.inl ⟨by rfl,fun w'=>by go_simp;with_reducible rfl⟩) (by simp only [Act.put,pkA,pkB,pkC];rfl) ?_
   refine Zap (i:=15) (N:=some 28) (upB 22 16) rfl rfl (by kernel_rfl) (fun _ _ _ h=>h) (Or.inl ⟨by rfl,fun w'=>by go_simp;with_reducible rfl⟩) (by simp only [Act.put,pkA,pkB,pkC];rfl) ?_
   refine Zap (i:=16) (N:=some 29) (v:=undef) (upB 22 17) rfl rfl (by kernel_rfl) (fun _ _ _ h=>h) (Or.inr ⟨by rfl,rfl⟩) (by simp only [Act.put,pkA,pkB,pkC];rfl) ?_
   refine Zap (i:=17) (N:=some 30) (v:=undef) (upB 22 18) rfl rfl (by kernel_rfl) (fun _ _ _ h=>h) (Or.inr ⟨by rfl,rfl⟩) (by simp only [Act.put,pkA,pkB,pkC];rfl) ?_
   refine Zap (i:=18) (N:=some 31) (v:=undef) (upB 22 19) rfl rfl (by kernel_rfl) (fun _ _ _ h=>h) (Or.inr ⟨by rfl,rfl⟩) (by simp only [Act.put,pkA,pkB,pkC];rfl) ?_
   refine Zap (i:=19) (N:=some 32) (v:=undef) (upB 22 20) rfl rfl (by kernel_rfl) (fun _ _ _ h=>h) (Or.inr ⟨by rfl,rfl⟩) (by simp only [Act.put,pkA,pkB,pkC];rfl) ?_
   refine Zap (i:=20) (N:=some 33) (upB 22 21) rfl rfl (by kernel_rfl) (fun _ _ _ h=>h) (Or.inl ⟨by rfl,fun w'=>by go_simp;with_reducible rfl⟩) (by simp only [Act.put,pkA,pkB,pkC];rfl) ?_
   refine Zap (i:=21) (N:=some 3) (upB 22 22) rfl rfl (by kernel_rfl) (fun _ _ _ h=>h) (Or.inl ⟨by rfl,fun w'=>by go_simp;with_reducible rfl⟩) (by simp only [Act.put,pkA,pkB,pkC];rfl) ?_
   refine Zgw (by kernel_rfl) ?_
   go_wp2
   go_ret
   exact ⟨by rw [hr.out];rfl,hwd.trans (hb2.mono hwd.size)⟩
  ·rw [h2] at q2 hc
   have hr:Aside0 (Zfc x.nodes y=Zkn y.code):=⟨hc⟩
   clear h1 h2 hc
   refine Zfm (n:=22) (S:=fun w'=>w'.cell? ⟨w.heap.size,0,none⟩=some (.int .i64 y.node)∧w'.cell? ⟨w.heap.size,1,none⟩=some (.int .i64 y.lvl)∧w'.cell? ⟨w.heap.size,2,none⟩=some (.int .i64 y.marks)∧w'.cell? ⟨w.heap.size,3,none⟩=some (.bool y.again)∧w'.cell? ⟨w.heap.size,4,none⟩=some (.slice B1 y.code.length d1)∧w'.cell? ⟨gv,0,none⟩=some (.pointer (some ⟨gp,0,none⟩))∧w'.cell? ⟨gp,0,none⟩=some (.int .i64 x.nodes)) (ds:=[]) (upB 22 0) (by kernel_rfl) rfl rfl ⟨Zag Ny rfl,Zag Ny rfl,Zag Ny rfl,Zag Ny rfl,Zag Ny rfl,Zag NV rfl,Zag NP rfl⟩ (fun hHeld=>?_)
   generalize W.drew=Wd at *
   refine Zap (i:=0) (N:=some 13) (upB 22 1) rfl rfl (by kernel_rfl) (fun _ _ _ h=>h) (Or.inl ⟨by rfl,fun w'=>by go_simp;with_reducible rfl⟩) (by simp only [Act.put,pkA,pkB,pkC];rfl) ?_
   refine Zbz (i:=1) (N:=some 14) (upB 22 2) rfl rfl (by kernel_rfl) (fun _ _ _ h=>h) (Or.inl ⟨by rfl,by rintro w' ⟨s0,s1,s2,s3,s4,s5,s6⟩;go_simp;with_reducible rfl⟩) hHeld (by simp only [Act.put,pkA,pkB,pkC];rfl) ?_
   refine Zap (i:=2) (N:=some 15) (upB 22 3) rfl rfl (by kernel_rfl) (fun _ _ _ h=>h) (Or.inl ⟨by rfl,fun w'=>by go_simp;with_reducible rfl⟩) (by simp only [Act.put,pkA,pkB,pkC];rfl) ?_
   refine Zbz (i:=3) (N:=some 16) (upB 22 4) rfl rfl (by kernel_rfl) (fun _ _ _ h=>h) (Or.inl ⟨by rfl,by rintro w' ⟨s0,s1,s2,s3,s4,s5,s6⟩;go_simp;with_reducible rfl⟩) hHeld (by simp only [Act.put,pkA,pkB,pkC];rfl) ?_
   refine Zap (i:=4) (N:=some 17) (upB 22 5) rfl rfl (by kernel_rfl) (fun _ _ _ h=>h) (Or.inl ⟨by rfl,fun w'=>by go_simp;with_reducible rfl⟩) (by simp only [Act.put,pkA,pkB,pkC];rfl) ?_
   refine Zap (i:=5) (N:=some 18) (upB 22 6) rfl rfl (by kernel_rfl) (fun _ _ _ h=>h) (Or.inl ⟨by rfl,fun w'=>by go_simp;with_reducible rfl⟩) (by simp only [Act.put,pkA,pkB,pkC];rfl) ?_
   refine Zbz (i:=6) (N:=some 19) (upB 22 7) rfl rfl (by kernel_rfl) (fun _ _ _ h=>h) (Or.inl ⟨by rfl,by rintro w' ⟨s0,s1,s2,s3,s4,s5,s6⟩;go_simp;with_reducible rfl⟩) hHeld (by simp only [Act.put,pkA,pkB,pkC];rfl) ?_
   refine one_ (i:=7) (N:=some 20) (upB 22 8) rfl rfl (by kernel_rfl) (by decide) (fun K hK=>?_)
   refine Zfw Tryz.func186 (by kernel_rfl) rfl #[.int .i64 y.node,.int .i64 x.nodes] (by rfl) rfl rfl (by (try simp only [List.map_toArray,List.map_cons,List.map_nil]);first | done | rfl) ?_
   with_reducible refine (q1 _).mono ?_
   rintro e w1 ⟨rfl,rfl⟩
   refine ⟨_,rfl, ?_⟩
   refine hK.out _ _ ⟨hHeld.1,hHeld.2.1,hHeld.2.2.1,hHeld.2.2.2.1,hHeld.2.2.2.2.1,hHeld.2.2.2.2.2.1,hHeld.2.2.2.2.2.2⟩ (fun hHeld=>?_)
   clear hK K
   refine Zbb (a':=?_) ?_ ?_
   rotate_left
   ·show Act.put _ (some 20) _=_
    simp only [Act.put,pkA,pkB,pkC]
    rfl
   refine Zap (i:=8) (N:=some 21) (upB 22 9) rfl rfl (by kernel_rfl) (fun _ _ _ h=>h) (Or.inl ⟨by rfl,fun w'=>by go_simp;with_reducible rfl⟩) (by simp only [Act.put,pkA,pkB,pkC];rfl) ?_
   refine Zap (i:=9) (N:=some 22) (upB 22 10) rfl rfl (by kernel_rfl) (fun _ _ _ h=>h) (Or.inl ⟨by rfl,fun w'=>by go_simp;with_reducible rfl⟩) (by simp only [Act.put,pkA,pkB,pkC];rfl) ?_
   refine Zap (i:=10) (N:=some 23) (upB 22 11) rfl rfl (by kernel_rfl) (fun _ _ _ h=>h) (Or.inl ⟨by rfl,fun w'=>by go_simp;with_reducible rfl⟩) (by simp only [Act.put,pkA,pkB,pkC];rfl) ?_
   refine Zbz (i:=11) (N:=some 24) (upB 22 12) rfl rfl (by kernel_rfl) (fun _ _ _ h=>h) (Or.inl ⟨by rfl,by rintro w' ⟨s0,s1,s2,s3,s4,s5,s6⟩;go_simp;with_reducible rfl⟩) hHeld (by simp only [Act.put,pkA,pkB,pkC];rfl) ?_
   refine one_ (i:=12) (N:=some 25) (upB 22 13) rfl rfl (by kernel_rfl) (by decide) (fun K hK=>?_)
   refine Zfw Tryz.func197 (by kernel_rfl) rfl #[.agg #[.int .i64 y.lvl,.int .i64 y.marks]] (by rfl) rfl rfl (by (try simp only [List.map_toArray,List.map_cons,List.map_nil]);first | done | rfl) ?_
   with_reducible refine (q2 _).mono ?_
   rintro e w2 ⟨rfl,hb2⟩
   refine ⟨_,rfl, ?_⟩
   refine hK.out _ _ ⟨Zaa hb2 hHeld.1,Zaa hb2 hHeld.2.1,Zaa hb2 hHeld.2.2.1,Zaa hb2 hHeld.2.2.2.1,Zaa hb2 hHeld.2.2.2.2.1,Zaa hb2 hHeld.2.2.2.2.2.1,Zaa hb2 hHeld.2.2.2.2.2.2⟩ (fun hHeld=>?_)
   clear hK K
   refine Zbb (a':=?_) ?_ ?_
   rotate_left
   ·show Act.put _ (some 25) _=_
    simp only [Act.put,pkA,pkB,pkC]
    rfl
   refine Zap (i:=13) (N:=some 26) (upB 22 14) rfl rfl (by kernel_rfl) (fun _ _ _ h=>h) (Or.inl ⟨by rfl,fun w'=>by go_simp;with_reducible rfl⟩) (by simp only [Act.put,pkA,pkB,pkC];rfl) ?_
   refine Zap (i:=14) (N:=some 27) (upB 22 15) rfl rfl (by kernel_rfl) (fun _ _ _ h=>h) (Or.inl ⟨by rfl,fun w'=>by go_simp;with_reducible rfl⟩) (by simp only [Act.put,pkA,pkB,pkC];rfl) ?_
   refine Zap (i:=15) (N:=some 28) (upB 22 16) rfl rfl (by kernel_rfl) (fun _ _ _ h=>h) (Or.inl ⟨by rfl,fun w'=>by go_simp;with_reducible rfl⟩) (by simp only [Act.put,pkA,pkB,pkC];rfl) ?_
   refine Zap (i:=16) (N:=some 29) (upB 22 17) rfl rfl (by kernel_rfl) (fun _ _ _ h=>h) (Or.inl ⟨by rfl,fun w'=>by go_simp;with_reducible rfl⟩) (by simp only [Act.put,pkA,pkB,pkC];rfl) ?_
   refine Zbz (i:=17) (N:=some 30) (upB 22 18) rfl rfl (by kernel_rfl) (fun _ _ _ h=>h) (Or.inl ⟨by rfl,by rintro w' ⟨s0,s1,s2,s3,s4,s5,s6⟩;go_simp;with_reducible rfl⟩) hHeld (by simp only [Act.put,pkA,pkB,pkC];rfl) ?_
   refine one_ (i:=18) (N:=some 31) (upB 22 19) rfl rfl (by kernel_rfl) (by decide) (fun K hK=>?_)
   refine Zfw Tryz.func198 (by kernel_rfl) rfl #[.slice B1 y.code.length d1] (by rfl) rfl rfl (by (try simp only [List.map_toArray,List.map_cons,List.map_nil]);first | done | rfl) ?_
   with_reducible refine (q3 _ (Zac s1 (hwd.trans (hb2.mono hwd.size)))).mono ?_
   rintro e w3 ⟨rfl,hb3⟩
   refine ⟨_,rfl, ?_⟩
   refine hK.out _ _ ⟨Zaa hb3 hHeld.1,Zaa hb3 hHeld.2.1,Zaa hb3 hHeld.2.2.1,Zaa hb3 hHeld.2.2.2.1,Zaa hb3 hHeld.2.2.2.2.1,Zaa hb3 hHeld.2.2.2.2.2.1,Zaa hb3 hHeld.2.2.2.2.2.2⟩ (fun hHeld=>?_)
   clear hK K
   refine Zbb (a':=?_) ?_ ?_
   rotate_left
   ·show Act.put _ (some 31) _=_
    simp only [Act.put,pkA,pkB,pkC]
    rfl
   refine Zap (i:=19) (N:=some 32) (upB 22 20) rfl rfl (by kernel_rfl) (fun _ _ _ h=>h) (Or.inl ⟨by rfl,fun w'=>by go_simp;with_reducible rfl⟩) (by simp only [Act.put,pkA,pkB,pkC];rfl) ?_
   refine Zap (i:=20) (N:=some 33) (upB 22 21) rfl rfl (by kernel_rfl) (fun _ _ _ h=>h) (Or.inl ⟨by rfl,fun w'=>by go_simp;with_reducible rfl⟩) (by simp only [Act.put,pkA,pkB,pkC];rfl) ?_
   refine Zap (i:=21) (N:=some 3) (upB 22 22) rfl rfl (by kernel_rfl) (fun _ _ _ h=>h) (Or.inl ⟨by rfl,fun w'=>by go_simp;with_reducible rfl⟩) (by simp only [Act.put,pkA,pkB,pkC];rfl) ?_
   refine Zgw (by kernel_rfl) ?_
   go_wp2
   go_ret
   exact ⟨by rw [hr.out];rfl,(hwd.trans (hb2.mono hwd.size)).trans (hb3.mono (hwd.trans (hb2.mono hwd.size)).size)⟩
theorem Zsi (x:Pln) (cs:List Value) (w:World) (gp:Nat) (hP:allK w x kPln cs) (hN:w.heap[gp]? = some (.cells cs.toArray 33 (0,0))) (gv:Nat) (hV:w.heap[gv]? = some (.cells #[.pointer (some ⟨gp,0,none⟩)] 201 (0,0))) (k:Nat) (y:Wy) (hy:x.ways[k]? = some y) :
  Calls Tryz.prog 199 #[.int .i64 k,.pointer (some ⟨gv,0,none⟩)] w fun e w'=>e=.returned (.bool (!(wyOk x.cells.length y)))∧Below w.heap.size w w':=by
 obtain ⟨A1,c1,A2,c2,A3,c3,A4,c4,rfl,l1,r1,l2,r2,l3,r3,l4,r4⟩:=Zcs hP
 have hm:=Zax r2
 have hm1:=Zax r1
 have hkl:=(List.getElem?_eq_some_iff.1 hy).1
 obtain ⟨gd,hgd⟩:∃ b,y.guarded=b:=⟨_,rfl⟩
 obtain ⟨ad,B1,d1,rfl,y0,y1,y2,y3,y4,m1,s1⟩:=Zhc r2 hy
 rw [hgd] at y3
 have hmg:=Zax s1
 obtain ⟨W,eW,hw0,Ny⟩:=new1 w (.cells #[.int .i64 y.frm,.int .i64 y.dst,.int .i64 y.depth,.bool gd,.slice B1 y.guard.length d1] 112)
 have NV:=Zab hV hw0
 have NP:=Zab hN hw0
 have pv:=cellsP1 hV
 obtain ⟨-,-,-,-,p4⟩:=cellsP5 hN
 have q1:=fun w=>Zcv y.frm x.cells.length w
 have q2:=fun w=>Zcv y.dst x.cells.length w
 have q5:=fun w h=>Zry B1 d1 y.guard w h
 have hc:wyOk x.cells.length y=(hasP y.frm x.cells.length&&(hasP y.dst x.cells.length&&(decide (y.frm≠y.dst)&&(inB y.depth 1 4&&(Zoj y.guard&&(gd||decide (y.guard.length=0))))))):=by rw [wyOk,Zma,Zma,hgd]
 go_enter Tryz.func199,Tryz.ntmps199
 go_upto_region 2 with (fail)
 refine wp_at eW ?_
 clear eW
 have pv:=cellsP1 NV
 obtain ⟨-,-,-,p3⟩:=cellsP4 NP
 obtain ⟨u0,u1,u2,u3,u4⟩:=cellsP5 Ny
 cases h1:hasP y.frm x.cells.length
 ·rw [h1] at q1 hc
  have hr:Aside0 (wyOk x.cells.length y=false):=⟨hc⟩
  clear h1 hc
  go_quiet (first
   | (go_at_call 186;with_reducible exact Calls.quiet_of_same (q1 _))
   | (go_at_call 186;with_reducible exact Calls.quiet_of_same (q2 _)))
  rename_i nq
  go_wp2
  go_ret
  exact ⟨by rw [hr.out];rfl,Zay hw0 nq⟩
 ·rw [h1] at q1 hc
  cases h2:hasP y.dst x.cells.length
  ·rw [h2] at q2 hc
   have hr:Aside0 (wyOk x.cells.length y=false):=⟨hc⟩
   clear h1 h2 hc
   go_quiet (first
    | (go_at_call 186;with_reducible exact Calls.quiet_of_same (q1 _))
    | (go_at_call 186;with_reducible exact Calls.quiet_of_same (q2 _)))
   rename_i nq
   go_wp2
   go_ret
   exact ⟨by rw [hr.out];rfl,Zay hw0 nq⟩
  ·rw [h2] at q2 hc
   by_cases h3:y.frm=y.dst
   ·rw [show decide (y.frm≠y.dst)=false from decide_eq_false (fun h=>h h3)] at hc
    have d3:(y.frm==y.dst)=true:=by rw [h3];exact beq_self_eq_true _
    have hr:Aside0 (wyOk x.cells.length y=false):=⟨hc⟩
    clear h1 h2 h3 hc
    go_quiet (first
     | (go_at_call 186;with_reducible exact Calls.quiet_of_same (q1 _))
     | (go_at_call 186;with_reducible exact Calls.quiet_of_same (q2 _)))
    rename_i nq
    go_wp2
    go_ret
    exact ⟨by rw [hr.out];rfl,Zay hw0 nq⟩
   ·rw [show decide (y.frm≠y.dst)=true from decide_eq_true h3] at hc
    have d3:(y.frm==y.dst)=false:=beq_eq_false_iff_ne.2 h3
    by_cases h4:y.depth<1
    ·rw [show inB y.depth 1 4=false by simp [inB];omega] at hc
     have d4:=decide_eq_true h4
     have hr:Aside0 (wyOk x.cells.length y=false):=⟨hc⟩
     clear h1 h2 h3 hc
     go_quiet (first
      | (go_at_call 186;with_reducible exact Calls.quiet_of_same (q1 _))
      | (go_at_call 186;with_reducible exact Calls.quiet_of_same (q2 _)))
     rename_i nq
     go_wp2
     go_ret
     exact ⟨by rw [hr.out];rfl,Zay hw0 nq⟩
    ·have d4:=decide_eq_false h4
     by_cases h5:4<y.depth
     ·rw [show inB y.depth 1 4=false by simp [inB];omega] at hc
      have d5:=decide_eq_true h5
      have hr:Aside0 (wyOk x.cells.length y=false):=⟨hc⟩
      clear h1 h2 h3 hc
      go_quiet (first
       | (go_at_call 186;with_reducible exact Calls.quiet_of_same (q1 _))
       | (go_at_call 186;with_reducible exact Calls.quiet_of_same (q2 _)))
      rename_i nq
      go_wp2
      go_ret
      exact ⟨by rw [hr.out];rfl,Zay hw0 nq⟩
     ·have d5:=decide_eq_false h5
      rw [show inB y.depth 1 4=true by simp [inB];omega] at hc
      cases h6:Zoj y.guard
      ·rw [h6] at q5 hc
       have hr:Aside0 (wyOk x.cells.length y=false):=⟨hc⟩
       clear h1 h2 h3 h6 hc
       refine Zan (by kernel_rfl) (by kernel_rfl) ?_
       have hx:=Zbg W
       repeat (go_big_quiet_step (first | (go_at_call 186;first | (with_reducible exact Calls.ext_of_same (q1 _)) | (with_reducible exact Calls.ext_of_same (q2 _))) | (go_at_call 200;with_reducible exact Calls.ext_of_below (q5 _ (Zac s1 (hw0.trans ((Zam _ _).mono hw0.size)))))))
       refine wpQuiet_nil ?_
       rintro _ ⟨wt,rfl⟩
       have hbx:=hw0.trans ((Zam W wt).mono hw0.size)
       clear hx
       go_wp2
       go_ret
       exact ⟨by rw [hr.out];rfl,hbx⟩
      ·rw [h6] at q5 hc
       have hr:Aside0 (wyOk x.cells.length y=(gd||decide (y.guard.length=0))):=⟨hc⟩
       clear h1 h2 h3 h6 hc
       cases gd
       ·refine Zan (by kernel_rfl) (by kernel_rfl) ?_
        have hx:=Zbg W
        repeat (go_big_quiet_step (first | (go_at_call 186;first | (with_reducible exact Calls.ext_of_same (q1 _)) | (with_reducible exact Calls.ext_of_same (q2 _))) | (go_at_call 200;with_reducible exact Calls.ext_of_below (q5 _ (Zac s1 (hw0.trans ((Zam _ _).mono hw0.size)))))))
        refine wpQuiet_nil ?_
        rintro _ ⟨wt,rfl⟩
        have hbx:=hw0.trans ((Zam W wt).mono hw0.size)
        clear hx
        go_wp2
        go_ret
        exact ⟨by rw [hr.out];by_cases hz:y.guard.length=0 <;> simp [hz] <;> omega,hbx⟩
       ·refine Zan (by kernel_rfl) (by kernel_rfl) ?_
        have hx:=Zbg W
        repeat (go_big_quiet_step (first | (go_at_call 186;first | (with_reducible exact Calls.ext_of_same (q1 _)) | (with_reducible exact Calls.ext_of_same (q2 _))) | (go_at_call 200;with_reducible exact Calls.ext_of_below (q5 _ (Zac s1 (hw0.trans ((Zam _ _).mono hw0.size)))))))
        refine wpQuiet_nil ?_
        rintro _ ⟨wt,rfl⟩
        have hbx:=hw0.trans ((Zam W wt).mono hw0.size)
        clear hx
        go_wp2
        go_ret
        exact ⟨by rw [hr.out];rfl,hbx⟩
end Go.Proofs.YtaeckoinpllpnaaGreat
namespace Go.Proofs.YtaeckoinpllpnaaGreat
open Go.RowKit Go.Proofs.YtaeckoinpllpnaaGreatW.PrintWords
theorem Zqr (x:Pln) (cs:List Value) (w:World) (gp:Nat) (hP:allK w x kPln cs) (hN:w.heap[gp]? = some (.cells cs.toArray 33 (0,0))) (gv:Nat) (hV:w.heap[gv]? = some (.cells #[.pointer (some ⟨gp,0,none⟩)] 201 (0,0))) (k:Nat) (y:Wy) (hy:x.ways[k]? = some y) (hW:Zhg x) :
  Calls Tryz.prog 201 #[.int .i64 k,.pointer (some ⟨gv,0,none⟩)] w fun e w'=>e=.returned (.bool (!(Zfy x y)))∧Below w.heap.size w w':=by
 obtain ⟨A1,c1,A2,c2,A3,c3,A4,c4,rfl,l1,r1,l2,r2,l3,r3,l4,r4⟩:=Zcs hP
 have hm:=Zax r2
 have hm1:=Zax r1
 have hkl:=(List.getElem?_eq_some_iff.1 hy).1
 obtain ⟨j0,j1,j2,j3⟩:=hW _ _ hy
 obtain ⟨za,hza⟩:=Zar x.cells (show y.frm.toNat<x.cells.length by omega)
 obtain ⟨zb,hzb⟩:=Zar x.cells (show y.dst.toNat<x.cells.length by omega)
 obtain ⟨gd,hgd⟩:∃ b,y.guarded=b:=⟨_,rfl⟩
 have hfl:Zfy x y=(gd||Zeo za.lvl za.marks zb.lvl zb.marks):=by rw [Zfy,hza,hzb,hgd]
 obtain ⟨ad,B1,d1,rfl,y0,y1,y2,y3,y4,m1,s1⟩:=Zhc r2 hy
 rw [hgd] at y3
 obtain ⟨W,eW,hw0,Ny⟩:=new1 w (.cells #[.int .i64 y.frm,.int .i64 y.dst,.int .i64 y.depth,.bool gd,.slice B1 y.guard.length d1] 112)
 have NV:=Zab hV hw0
 have NP:=Zab hN hw0
 obtain ⟨bd,B2,d2,rfl,z0,z1,z2,z3,z4,m2,s2⟩:=Zed (Zac r1 hw0) hza
 obtain ⟨bd',B3,d3,hA',v0,v1,v2,v3,v4,m3,s3⟩:=Zed (Zac r1 hw0) hzb
 obtain rfl:bd=bd':=Option.some.inj hA'
 have pv:=cellsP1 hV
 obtain ⟨-,-,-,-,p4⟩:=cellsP5 hN
 have hq:=Znq za.lvl za.marks zb.lvl zb.marks
 clear s1 s2 s3 hza hzb hgd hA' hW hP r1 r2 r3 r4
 go_enter Tryz.func201,Tryz.ntmps201
 go_upto_region 2 with (fail)
 refine wp_at eW ?_
 clear eW
 clear pv p4
 have pv:=cellsP1 NV
 obtain ⟨-,-,-,p3⟩:=cellsP4 NP
 obtain ⟨u0,u1,-,u3⟩:=cellsP4 Ny
 have hd:=Zat hw0
 cases gd
 ·cases hfv:Zeo za.lvl za.marks zb.lvl zb.marks
  ·rw [hfv] at hfl hq
   have hr:Aside0 (Zfy x y=false):=⟨hfl⟩
   clear hfl hfv
   refine Zan (by kernel_rfl) (by kernel_rfl) ?_
   have hx:=Zbg W
   repeat (go_big_quiet_step (first | (go_at_call 202;with_reducible exact Calls.ext_of_below (hq _))))
   refine wpQuiet_nil ?_
   rintro _ ⟨wt,rfl⟩
   have hbx:=Zam W wt
   clear hx
   go_wp2
   go_ret
   exact ⟨by rw [hr.out];rfl,hw0.trans (hbx.mono hw0.size)⟩
  ·rw [hfv] at hfl hq
   have hr:Aside0 (Zfy x y=true):=⟨hfl⟩
   clear hfl hfv
   refine Zan (by kernel_rfl) (by kernel_rfl) ?_
   have hx:=Zbg W
   repeat (go_big_quiet_step (first | (go_at_call 202;with_reducible exact Calls.ext_of_below (hq _))))
   refine wpQuiet_nil ?_
   rintro _ ⟨wt,rfl⟩
   have hbx:=Zam W wt
   clear hx
   go_wp2
   go_ret
   exact ⟨by rw [hr.out];rfl,hw0.trans (hbx.mono hw0.size)⟩
 ·have hr:Aside0 (Zfy x y=true):=⟨hfl.trans (Bool.true_or _)⟩
  clear hfl
  go_quiet (fail)
  rename_i nq
  go_wp2
  go_ret
  exact ⟨by rw [hr.out];rfl,Zay hw0 nq⟩
end Go.Proofs.YtaeckoinpllpnaaGreat
namespace Go.Proofs.YtaeckoinpllpnaaGreat
open Go.RowKit Go.Proofs.YtaeckoinpllpnaaGreatW.PrintWords Go.Proofs.YtaeckoinpllpnaaGreatW.PrintLast
theorem Zqs (x:Pln) (cs:List Value) (w:World) (gp:Nat) (hP:allK w x kPln cs) (hN:w.heap[gp]? = some (.cells cs.toArray 33 (0,0))) (gv:Nat) (hV:w.heap[gv]? = some (.cells #[.pointer (some ⟨gp,0,none⟩)] 201 (0,0))) (k:Nat) (s:Slt) (hs:x.slots[k]? = some s) (hW:Zhg x) :
  Calls Tryz.prog 203 #[.int .i64 k,.pointer (some ⟨gv,0,none⟩)] w fun e w'=>e=.returned (.bool (!(Zfe x s)))∧Below w.heap.size w w':=by
 obtain ⟨A1,c1,A2,c2,A3,c3,A4,c4,rfl,l1,r1,l2,r2,l3,r3,l4,r4⟩:=Zcs hP
 have hm:=Zax r3
 have hm1:=Zax r2
 have hkl:=(List.getElem?_eq_some_iff.1 hs).1
 obtain ⟨ad,rfl,y0,y1⟩:=Zoh r3 hs
 obtain ⟨W,eW,hw0,Ny⟩:=new1 w (.cells #[.int .i64 s.node,.int .i64 s.way] 121)
 have NV:=Zab hV hw0
 have NP:=Zab hN hw0
 have pv:=cellsP1 hV
 obtain ⟨-,-,-,-,-,p5⟩:=cellsP6 hN
 have q1:=fun w=>Zcv s.node x.nodes w
 have q2:=fun w=>Zcv s.way x.ways.length w
 have hc:Zfe x s=(hasP s.node x.nodes&&(inB s.way (-1) ((x.ways.length:Int)-1)&&(s.way == -1||begins x s.way==s.node))):=by rw [Zfe,Zma]
 go_enter Tryz.func203,Tryz.ntmps203
 go_upto_region 2 with (fail)
 refine wp_at eW ?_
 clear eW
 clear pv p5 y0 y1
 have pv:=cellsP1 NV
 have p0:=cellsP1 NP
 have u0:=cellsP1 Ny
 cases h1:hasP s.node x.nodes
 ·rw [h1] at q1 hc
  have hr:Aside0 (Zfe x s=false):=⟨hc⟩
  clear h1 hc
  go_quiet (first | (go_at_call 186;with_reducible exact Calls.quiet_of_same (q1 _)))
  rename_i nq
  go_wp2
  go_ret
  exact ⟨by rw [hr.out];rfl,Zay hw0 nq⟩
 ·rw [h1] at q1 hc
  clear h1
  have hc:=Aside0.mk hc
  go_quiet (first | (go_at_call 186;with_reducible exact Calls.quiet_of_same (q1 _)))
  rename_i nq
  replace hw0:=Zay hw0 nq
  replace Ny:=Zdy Ny nq
  replace NV:=Zdy NV nq
  replace NP:=Zdy NP nq
  clear pv p0 u0
  generalize W.drewN nq=W2 at *
  obtain ⟨u0,u1⟩:=cellsP2 Ny
  have pv:=cellsP1 NV
  obtain ⟨-,-,-,-,p4⟩:=cellsP5 NP
  cases h2:(s.way == -1)
  ·have hne:s.way≠-1:=beq_eq_false_iff_ne.1 h2
   cases h3:hasP s.way x.ways.length
   ·rw [h3] at q2
    have hr:Aside0 (Zfe x s=false):=⟨by
     rw [hc.out,show inB s.way (-1) ((x.ways.length:Int)-1)=false by
      simp only [hasP,inB,Bool.and_eq_false_iff,decide_eq_false_iff_not] at h3 ⊢
      omega]
     rfl⟩
    clear h3 hc hne
    go_upto_region 6 with (fail)
    go_quiet (first | (go_at_call 186;with_reducible exact Calls.quiet_of_same (q2 _)))
    rename_i nq
    go_wp2
    go_ret
    exact ⟨by rw [hr.out];rfl,Zay hw0 nq⟩
   ·rw [h3] at q2
    have hh:0≤s.way∧s.way<(x.ways.length:Int):=by simpa [hasP] using h3
    have hr:Aside0 (Zfe x s=(begins x s.way==s.node)):=⟨by
     rw [hc.out,show inB s.way (-1) ((x.ways.length:Int)-1)=true by simp [inB];omega,h2]
     rfl⟩
    have hd:=Zat hw0
    have q3:=Zhu x _ W2.drew gp (Zai hd hP) (Zdb NP) s.way hh.1 hh.2 hW
    clear h3 hc hne hh hP
    go_upto_region 6 with (fail)
    refine Zfm (n:=21) (S:=fun w'=>w'.cell? ⟨w.heap.size,0,none⟩=some (.int .i64 s.node)∧w'.cell? ⟨w.heap.size,1,none⟩=some (.int .i64 s.way)∧w'.cell? ⟨gv,0,none⟩=some (.pointer (some ⟨gp,0,none⟩))∧w'.cell? ⟨gp,4,none⟩=some (.slice A2 x.ways.length c2)) (ds:=[]) (upB 21 0) (by kernel_rfl) rfl rfl ⟨u0,u1,pv,p4⟩ (fun hHeld=>?_)
    generalize W2.drew=Wd at *
    refine Zap (i:=0) (N:=some 25) (upB 21 1) rfl rfl (by kernel_rfl) (fun _ _ _ h=>h) (Or.inl ⟨by rfl,fun w'=>by go_simp;with_reducible rfl⟩) (by simp only [Act.put,pkA,pkB,pkC];rfl) ?_
    refine Zbz (i:=1) (N:=some 26) (upB 21 2) rfl rfl (by kernel_rfl) (fun _ _ _ h=>h) (Or.inl ⟨by rfl,by rintro w' ⟨s0,s1,s2,s3⟩;go_simp;with_reducible rfl⟩) hHeld (by simp only [Act.put,pkA,pkB,pkC];rfl) ?_
    refine Zap (i:=2) (N:=some 27) (upB 21 3) rfl rfl (by kernel_rfl) (fun _ _ _ h=>h) (Or.inl ⟨by rfl,fun w'=>by go_simp;with_reducible rfl⟩) (by simp only [Act.put,pkA,pkB,pkC];rfl) ?_
    refine Zbz (i:=3) (N:=some 28) (upB 21 4) rfl rfl (by kernel_rfl) (fun _ _ _ h=>h) (Or.inl ⟨by rfl,by rintro w' ⟨s0,s1,s2,s3⟩;go_simp;with_reducible rfl⟩) hHeld (by simp only [Act.put,pkA,pkB,pkC];rfl) ?_
    refine Zap (i:=4) (N:=some 29) (upB 21 5) rfl rfl (by kernel_rfl) (fun _ _ _ h=>h) (Or.inl ⟨by rfl,fun w'=>by go_simp;with_reducible rfl⟩) (by simp only [Act.put,pkA,pkB,pkC];rfl) ?_
    refine Zap (i:=5) (N:=some 30) (upB 21 6) rfl rfl (by kernel_rfl) (fun _ _ _ h=>h) (Or.inl ⟨by rfl,fun w'=>by go_simp;with_reducible rfl⟩) (by simp only [Act.put,pkA,pkB,pkC];rfl) ?_
    refine Zbz (i:=6) (N:=some 31) (upB 21 7) rfl rfl (by kernel_rfl) (fun _ _ _ h=>h) (Or.inl ⟨by rfl,by rintro w' ⟨s0,s1,s2,s3⟩;go_simp;with_reducible rfl⟩) hHeld (by simp only [Act.put,pkA,pkB,pkC];rfl) ?_
    refine Zap (i:=7) (N:=some 32) (upB 21 8) rfl rfl (by kernel_rfl) (fun _ _ _ h=>h) (Or.inl ⟨by rfl,fun w'=>by go_simp;with_reducible rfl⟩) (by simp only [Act.put,pkA,pkB,pkC];rfl) ?_
    refine one_ (i:=8) (N:=some 33) (upB 21 9) rfl rfl (by kernel_rfl) (by decide) (fun K hK=>?_)
    refine Zfw Tryz.func186 (by kernel_rfl) rfl #[.int .i64 s.way,.int .i64 x.ways.length] (by rfl) rfl rfl (by (try simp only [List.map_toArray,List.map_cons,List.map_nil]);first | done | rfl) ?_
    with_reducible refine (q2 _).mono ?_
    rintro e w1 ⟨rfl,rfl⟩
    refine ⟨_,rfl, ?_⟩
    refine hK.out _ _ ⟨hHeld.1,hHeld.2.1,hHeld.2.2.1,hHeld.2.2.2⟩ (fun hHeld=>?_)
    clear hK K
    refine Zbb (a':=?_) ?_ ?_
    rotate_left
    ·show Act.put _ (some 33) _=_
     simp only [Act.put,pkA,pkB,pkC]
     rfl
    refine Zap (i:=9) (N:=some 34) (upB 21 10) rfl rfl (by kernel_rfl) (fun _ _ _ h=>h) (Or.inl ⟨by rfl,fun w'=>by go_simp;with_reducible rfl⟩) (by simp only [Act.put,pkA,pkB,pkC];rfl) ?_
    refine Zap (i:=10) (N:=some 35) (upB 21 11) rfl rfl (by kernel_rfl) (fun _ _ _ h=>h) (Or.inl ⟨by rfl,fun w'=>by go_simp;with_reducible rfl⟩) (by simp only [Act.put,pkA,pkB,pkC];rfl) ?_
    refine Zap (i:=11) (N:=some 36) (upB 21 12) rfl rfl (by kernel_rfl) (fun _ _ _ h=>h) (Or.inl ⟨by rfl,fun w'=>by go_simp;with_reducible rfl⟩) (by simp only [Act.put,pkA,pkB,pkC];rfl) ?_
    refine Zbz (i:=12) (N:=some 37) (upB 21 13) rfl rfl (by kernel_rfl) (fun _ _ _ h=>h) (Or.inl ⟨by rfl,by rintro w' ⟨s0,s1,s2,s3⟩;go_simp;with_reducible rfl⟩) hHeld (by simp only [Act.put,pkA,pkB,pkC];rfl) ?_
    refine Zap (i:=13) (N:=some 38) (upB 21 14) rfl rfl (by kernel_rfl) (fun _ _ _ h=>h) (Or.inl ⟨by rfl,fun w'=>by go_simp;with_reducible rfl⟩) (by simp only [Act.put,pkA,pkB,pkC];rfl) ?_
    refine Zbz (i:=14) (N:=some 39) (upB 21 15) rfl rfl (by kernel_rfl) (fun _ _ _ h=>h) (Or.inl ⟨by rfl,by rintro w' ⟨s0,s1,s2,s3⟩;go_simp;with_reducible rfl⟩) hHeld (by simp only [Act.put,pkA,pkB,pkC];rfl) ?_
    refine Zap (i:=16) (N:=some 41) #[true,true,true,true,true,true,true,true,true,true,true,true,true,true,true,false,true,false,false,false,false] rfl rfl (by kernel_rfl) (fun _ _ _ h=>h) (Or.inl ⟨by rfl,fun w'=>by go_simp;with_reducible rfl⟩) (by simp only [Act.put,pkA,pkB,pkC];rfl) ?_
    refine Zbz (i:=17) (N:=some 42) #[true,true,true,true,true,true,true,true,true,true,true,true,true,true,true,false,true,true,false,false,false] rfl rfl (by kernel_rfl) (fun _ _ _ h=>h) (Or.inl ⟨by rfl,by rintro w' ⟨s0,s1,s2,s3⟩;go_simp;with_reducible rfl⟩) hHeld (by simp only [Act.put,pkA,pkB,pkC];rfl) ?_
    refine one_ (i:=15) (N:=some 40) (upB 21 18) rfl rfl (by kernel_rfl) (by decide) (fun K hK=>?_)
    refine Zfw Tryz.func64 (by kernel_rfl) rfl #[.pointer (some ⟨gp,0,none⟩),.int .i64 s.way] (by rfl) rfl rfl (by (try simp only [List.map_toArray,List.map_cons,List.map_nil]);first | done | rfl) ?_
    with_reducible refine q3.mono ?_
    rintro e w2 ⟨rfl,hb2⟩
    refine ⟨_,rfl, ?_⟩
    refine hK.out _ _ ⟨Zaa hb2 hHeld.1,Zaa hb2 hHeld.2.1,Zaa hb2 hHeld.2.2.1,Zaa hb2 hHeld.2.2.2⟩ (fun hHeld=>?_)
    clear hK K
    refine Zbb (a':=?_) ?_ ?_
    rotate_left
    ·show Act.put _ (some 40) _=_
     simp only [Act.put,pkA,pkB,pkC]
     rfl
    refine Zap (i:=18) (N:=some 43) (upB 21 19) rfl rfl (by kernel_rfl) (fun _ _ _ h=>h) (Or.inl ⟨by rfl,fun w'=>by go_simp;with_reducible rfl⟩) (by simp only [Act.put,pkA,pkB,pkC];rfl) ?_
    refine Zap (i:=19) (N:=some 44) (upB 21 20) rfl rfl (by kernel_rfl) (fun _ _ _ h=>h) (Or.inl ⟨by rfl,fun w'=>by go_simp;with_reducible rfl⟩) (by simp only [Act.put,pkA,pkB,pkC];rfl) ?_
    refine Zap (i:=20) (N:=some 3) (upB 21 21) rfl rfl (by kernel_rfl) (fun _ _ _ h=>h) (Or.inl ⟨by rfl,fun w'=>by go_simp;with_reducible rfl⟩) (by simp only [Act.put,pkA,pkB,pkC];rfl) ?_
    refine Zgw (by kernel_rfl) ?_
    go_wp2
    go_ret
    exact ⟨by rw [hr.out];rfl,hd.trans (hb2.mono hd.size)⟩
  ·have hr:Aside0 (Zfe x s=true):=⟨by
    rw [hc.out,h2,beq_iff_eq.1 h2,show inB (-1) (-1) ((x.ways.length:Int)-1)=true by simp [inB];omega]
    rfl⟩
   clear hc
   go_wp2
   go_ret
   exact ⟨by rw [hr.out];rfl,hw0⟩
end Go.Proofs.YtaeckoinpllpnaaGreat
