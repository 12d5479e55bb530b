/- Part 17 of the proof of its last text: this session's own texts, shortened and joined by a program of its own (wip/pack.py). -/
import Derived.Test.YtaeckoinpllpnaaGreatTap
import Derived.Test.YtaeckoinpllpnaaGreatTag
import Derived.Deep.QuietTactic
import Derived.BigQuiet
set_option linter.unusedVariables false
set_option linter.unusedSimpArgs false
set_option maxHeartbeats 16000000
set_option maxRecDepth 100000
namespace Go.Proofs.YtaeckoinpllpnaaGreat
open Go.RowKit Go.Proofs.YtaeckoinpllpnaaGreatW.PrintWords
theorem Zox (x:Pln) (cs:List Value) (w:World) (hP:allK w x kPln cs) (hn:1≤x.nodes∧x.nodes≤4) :
  Calls Tryz.prog 134 #[.agg cs.toArray] w fun e w'=>e=.returned (.int .i64 (Zcm (Zfc x.nodes) x.cells:Nat))∧Below w.heap.size w w':=by
 obtain ⟨A1,c1,A2,c2,A3,c3,A4,c4,rfl,l1,r1,l2,r2,l3,r3,l4,r4⟩:=Zcs hP
 have hm:=Zax r1
 obtain ⟨W,eW,hw0,N0⟩:=new1 w (.cells #[.int .i64 x.nodes,.int .i64 x.secret,.int .i64 x.fuel,.slice A1 x.cells.length c1,.slice A2 x.ways.length c2,.slice A3 x.slots.length c3,.slice A4 x.turns.length c4] 33)
 go_enter Tryz.func134,Tryz.ntmps134
 go_wp2
 refine wp_at eW ?_
 clear eW
 go_loopw [3] (fun i wr=>∃ k:Nat,k≤x.cells.length∧i=.int .i64 k∧Aside0 ((x.cells.take k).all (Zfc x.nodes)=true)∧Below W.heap.size W wr) (fun i _=>x.cells.length-(intOf i).toNat)
 case atStart=>exact ⟨0,Nat.zero_le _,rfl,⟨rfl⟩,brf_⟩
 case round =>
  obtain ⟨k,hk,rfl,hall,hb⟩:=hrel
  have hwr:=hw0.trans (hb.mono hw0.size)
  have Nr:=Zab N0 hb
  obtain ⟨p0,p1,p2,p3,p4,p5,p6⟩:=cellsP7 Nr
  by_cases hlt:k<x.cells.length
  ·obtain ⟨y,hy⟩:=Zar x.cells hlt
   have hd:=Zat hwr
   have hPd:=Zai hd hP
   have Nd:=Zdb Nr
   obtain ⟨g0,g1,g2,g3,g4,g5,g6⟩:=cellsP7 Nd
   obtain ⟨ad,B1,d1,rfl,y0,y1,y2,y3,y4,m1,s1⟩:=Zed (Zac r1 hd) hy
   have hcall:=Zqw x _ _ hPd y B1 d1 hn s1
   clear hPd
   cases hpy:(Zfc x.nodes) y
   ·have hpy':Zfc x.nodes y=false:=hpy
    rw [hpy'] at hcall
    clear hpy'
    have hr:=Aside0.mk (Zec hall.out hy hpy)
    clear hpy
    go_wp2_with fail
    go_region_with (go_at_call 177;with_reducible refine hcall.mono ?_;rintro e w1 ⟨rfl,hb1⟩)
    all_goals
     go_wp2
     go_ret
     exact ⟨by rw [hr.out];rfl,hd.trans (hb1.mono hd.size)⟩
   ·have hpy':Zfc x.nodes y=true:=hpy
    rw [hpy'] at hcall
    clear hpy'
    have hr:=Aside0.mk (Zbi hy hall.out hpy)
    clear hpy
    go_wp2_with fail
    go_region_with (go_at_call 177;with_reducible refine hcall.mono ?_;rintro e w1 ⟨rfl,hb1⟩)
    all_goals
     go_wp2
     refine ⟨⟨k+1,by omega,rfl,hr,(Zat hb).trans (hb1.mono (Zat hb).size)⟩, ?_⟩
     simp [intOf]
     omega
  ·have e:k=x.cells.length:=by omega
   have hr:=hall.out
   rw [e,List.take_length] at hr
   have hr:=Aside0.mk (Zcc hr)
   clear hall
   go_wp2
   go_ret
   exact ⟨by rw [hr.out];rfl,hwr⟩
theorem Zsl (x:Pln) (cs:List Value) (w:World) (hP:allK w x kPln cs) (y:Wy) (B1:Option Addr) (d1:Nat) (hB1:Rd kRul w B1 y.guard) :
  Calls Tryz.prog 178 #[.agg cs.toArray,.agg #[.int .i64 y.frm,.int .i64 y.dst,.int .i64 y.depth,.bool y.guarded,.slice B1 y.guard.length d1]] w fun e w'=>e=.returned (.bool (wyOk x.cells.length y))∧Below w.heap.size w w':=by
 obtain ⟨A1,c1,A2,c2,A3,c3,A4,c4,rfl,l1,r1,l2,r2,l3,r3,l4,r4⟩:=Zcs hP
 obtain ⟨gd,hgd⟩:∃ b,y.guarded=b:=⟨_,rfl⟩
 rw [hgd]
 have hgd:=Aside0.mk hgd
 obtain ⟨gl,hgl⟩:∃ n,y.guard.length=n:=⟨_,rfl⟩
 have hgm:gl≤9223372036854775807:=hgl▸Zax hB1
 rw [hgl]
 have hgl:=Aside0.mk hgl
 have hw0:Below w.heap.size w ((w.alloc (.cells #[.int .i64 x.nodes,.int .i64 x.secret,.int .i64 x.fuel,.slice A1 x.cells.length c1,.slice A2 x.ways.length c2,.slice A3 x.slots.length c3,.slice A4 x.turns.length c4] 33)).alloc (.cells #[.int .i64 y.frm,.int .i64 y.dst,.int .i64 y.depth,.bool gd,.slice B1 gl d1] 112)):=((brf_).alloc nlr_ _).alloc (by simp) _
 have hm:=Zax r1
 have hm1:=Zax hB1
 have q1:=fun w=>Zaz y.frm 0 ((x.cells.length:Int)-1) w
 cases h1:inB y.frm 0 ((x.cells.length:Int)-1)
 ·rw [h1] at q1
  have hr:Aside0 (wyOk x.cells.length y=false):=⟨by rw [wyOk,h1];rfl⟩
  clear h1
  go_enter Tryz.func178,Tryz.ntmps178
  go_wp2_with (first
   | (go_at_call 94;with_reducible refine (q1 _).mono ?_;rintro e w1 ⟨rfl,rfl⟩))
  go_ret
  exact ⟨by rw [hr.out];rfl,hw0⟩
 ·rw [h1] at q1
  have q2:=fun w=>Zaz y.dst 0 ((x.cells.length:Int)-1) w
  cases h2:inB y.dst 0 ((x.cells.length:Int)-1)
  ·rw [h2] at q2
   have hr:Aside0 (wyOk x.cells.length y=false):=⟨by rw [wyOk,h1,h2];rfl⟩
   clear h1 h2
   go_enter Tryz.func178,Tryz.ntmps178
   go_wp2_with (first
    | (go_at_call 94;with_reducible refine (q2 _).mono ?_;rintro e w1 ⟨rfl,rfl⟩)
    | (go_at_call 94;with_reducible refine (q1 _).mono ?_;rintro e w1 ⟨rfl,rfl⟩))
   go_ret
   exact ⟨by rw [hr.out];rfl,hw0⟩
  ·rw [h2] at q2
   cases h3:decide (y.frm≠y.dst)
   ·have d3:(y.frm != y.dst)=false:=bne_eq_false_iff_eq.2 (Decidable.of_not_not (of_decide_eq_false h3))
    have hr:Aside0 (wyOk x.cells.length y=false):=⟨by rw [wyOk,h1,h2,h3];rfl⟩
    clear h1 h2 h3
    go_enter Tryz.func178,Tryz.ntmps178
    go_wp2_with (first
     | (go_at_call 94;with_reducible refine (q2 _).mono ?_;rintro e w1 ⟨rfl,rfl⟩)
     | (go_at_call 94;with_reducible refine (q1 _).mono ?_;rintro e w1 ⟨rfl,rfl⟩))
    go_ret
    exact ⟨by rw [hr.out];rfl,hw0⟩
   ·have d3:(y.frm != y.dst)=true:=bne_iff_ne.2 (of_decide_eq_true h3)
    have q4:=fun w=>Zaz y.depth 1 4 w
    cases h4:inB y.depth 1 4
    ·rw [h4] at q4
     have hr:Aside0 (wyOk x.cells.length y=false):=⟨by rw [wyOk,h1,h2,h3,h4];rfl⟩
     clear h1 h2 h3 h4
     go_enter Tryz.func178,Tryz.ntmps178
     go_wp2_with (first
      | (go_at_call 94;with_reducible refine (q4 _).mono ?_;rintro e w1 ⟨rfl,rfl⟩)
      | (go_at_call 94;with_reducible refine (q2 _).mono ?_;rintro e w1 ⟨rfl,rfl⟩)
      | (go_at_call 94;with_reducible refine (q1 _).mono ?_;rintro e w1 ⟨rfl,rfl⟩))
     go_ret
     exact ⟨by rw [hr.out];rfl,hw0⟩
    ·rw [h4] at q4
     have q5:=fun w h=>Zrx B1 d1 y.guard w h
     rw [hgl.out] at q5
     cases h5:Zoj y.guard
     ·rw [h5] at q5
      have hr:Aside0 (wyOk x.cells.length y=false):=⟨by rw [wyOk,h1,h2,h3,h4,h5];rfl⟩
      clear h1 h2 h3 h4 h5
      go_enter Tryz.func178,Tryz.ntmps178
      go_wp2_with (first
       | (go_at_call 218;with_reducible refine (q5 _ (Zac hB1 hw0)).mono ?_;rintro e w2 ⟨rfl,hb2⟩;have hw2:=hw0.trans (hb2.mono hw0.size);have Ny:=Zab (Zbs (g:=w.heap.size+1) _ _ (by simp)) hb2;have e3:=Zag (j:=3) Ny rfl;have e4:=Zag (j:=4) Ny rfl)
       | (go_at_call 94;with_reducible refine (q4 _).mono ?_;rintro e w1 ⟨rfl,rfl⟩)
       | (go_at_call 94;with_reducible refine (q2 _).mono ?_;rintro e w1 ⟨rfl,rfl⟩)
       | (go_at_call 94;with_reducible refine (q1 _).mono ?_;rintro e w1 ⟨rfl,rfl⟩))
      go_ret
      exact ⟨by rw [hr.out];rfl,hw2⟩
     ·rw [h5] at q5
      have hr:Aside0 (wyOk x.cells.length y=(y.guarded||decide (y.guard.length=0))):=⟨by rw [wyOk,h1,h2,h3,h4,h5];rfl⟩
      clear h1 h2 h3 h4 h5
      cases gd
      ·by_cases hz:gl=0
       ·subst hz
        go_enter Tryz.func178,Tryz.ntmps178
        go_wp2_with (first
         | (go_at_call 218;with_reducible refine (q5 _ (Zac hB1 hw0)).mono ?_;rintro e w2 ⟨rfl,hb2⟩;have hw2:=hw0.trans (hb2.mono hw0.size);have Ny:=Zab (Zbs (g:=w.heap.size+1) _ _ (by simp)) hb2;have e3:=Zag (j:=3) Ny rfl;have e4:=Zag (j:=4) Ny rfl)
         | (go_at_call 94;with_reducible refine (q4 _).mono ?_;rintro e w1 ⟨rfl,rfl⟩)
         | (go_at_call 94;with_reducible refine (q2 _).mono ?_;rintro e w1 ⟨rfl,rfl⟩)
         | (go_at_call 94;with_reducible refine (q1 _).mono ?_;rintro e w1 ⟨rfl,rfl⟩))
        go_ret
        exact ⟨by rw [hr.out,hgd.out,decide_eq_true hgl.out];rfl,hw2⟩
       ·have d6:((gl:Int)==0)=false:=beq_eq_false_iff_ne.2 (by omega)
        go_enter Tryz.func178,Tryz.ntmps178
        go_wp2_with (first
         | (go_at_call 218;with_reducible refine (q5 _ (Zac hB1 hw0)).mono ?_;rintro e w2 ⟨rfl,hb2⟩;have hw2:=hw0.trans (hb2.mono hw0.size);have Ny:=Zab (Zbs (g:=w.heap.size+1) _ _ (by simp)) hb2;have e3:=Zag (j:=3) Ny rfl;have e4:=Zag (j:=4) Ny rfl)
         | (go_at_call 94;with_reducible refine (q4 _).mono ?_;rintro e w1 ⟨rfl,rfl⟩)
         | (go_at_call 94;with_reducible refine (q2 _).mono ?_;rintro e w1 ⟨rfl,rfl⟩)
         | (go_at_call 94;with_reducible refine (q1 _).mono ?_;rintro e w1 ⟨rfl,rfl⟩))
        go_ret
        exact ⟨by rw [hr.out,hgd.out,decide_eq_false (show ¬y.guard.length=0 from fun h=>hz (hgl.out▸h))];rfl,hw2⟩
      ·go_enter Tryz.func178,Tryz.ntmps178
       go_wp2_with (first
        | (go_at_call 218;with_reducible refine (q5 _ (Zac hB1 hw0)).mono ?_;rintro e w2 ⟨rfl,hb2⟩;have hw2:=hw0.trans (hb2.mono hw0.size);have Ny:=Zab (Zbs (g:=w.heap.size+1) _ _ (by simp)) hb2;have e3:=Zag (j:=3) Ny rfl;have e4:=Zag (j:=4) Ny rfl)
        | (go_at_call 94;with_reducible refine (q4 _).mono ?_;rintro e w1 ⟨rfl,rfl⟩)
        | (go_at_call 94;with_reducible refine (q2 _).mono ?_;rintro e w1 ⟨rfl,rfl⟩)
        | (go_at_call 94;with_reducible refine (q1 _).mono ?_;rintro e w1 ⟨rfl,rfl⟩))
       go_ret
       exact ⟨by rw [hr.out,hgd.out];rfl,hw2⟩
theorem Zqx (x:Pln) (cs:List Value) (w:World) (hP:allK w x kPln cs) :
  Calls Tryz.prog 135 #[.agg cs.toArray] w fun e w'=>e=.returned (.int .i64 (Zcm (wyOk x.cells.length) x.ways:Nat))∧Below w.heap.size w w':=by
 obtain ⟨A1,c1,A2,c2,A3,c3,A4,c4,rfl,l1,r1,l2,r2,l3,r3,l4,r4⟩:=Zcs hP
 have hm:=Zax r2
 obtain ⟨W,eW,hw0,N0⟩:=new1 w (.cells #[.int .i64 x.nodes,.int .i64 x.secret,.int .i64 x.fuel,.slice A1 x.cells.length c1,.slice A2 x.ways.length c2,.slice A3 x.slots.length c3,.slice A4 x.turns.length c4] 33)
 go_enter Tryz.func135,Tryz.ntmps135
 go_wp2
 refine wp_at eW ?_
 clear eW
 go_loopw [3] (fun i wr=>∃ k:Nat,k≤x.ways.length∧i=.int .i64 k∧Aside0 ((x.ways.take k).all (wyOk x.cells.length)=true)∧Below W.heap.size W wr) (fun i _=>x.ways.length-(intOf i).toNat)
 case atStart=>exact ⟨0,Nat.zero_le _,rfl,⟨rfl⟩,brf_⟩
 case round =>
  obtain ⟨k,hk,rfl,hall,hb⟩:=hrel
  have hwr:=hw0.trans (hb.mono hw0.size)
  have Nr:=Zab N0 hb
  obtain ⟨p0,p1,p2,p3,p4,p5,p6⟩:=cellsP7 Nr
  by_cases hlt:k<x.ways.length
  ·obtain ⟨y,hy⟩:=Zar x.ways hlt
   have hd:=Zat hwr
   have hPd:=Zai hd hP
   have Nd:=Zdb Nr
   obtain ⟨g0,g1,g2,g3,g4,g5,g6⟩:=cellsP7 Nd
   obtain ⟨ad,B1,d1,rfl,y0,y1,y2,y3,y4,m1,s1⟩:=Zhc (Zac r2 hd) hy
   have hcall:=Zsl x _ _ hPd y B1 d1 s1
   clear hPd
   cases hpy:(wyOk x.cells.length) y
   ·have hpy':wyOk x.cells.length y=false:=hpy
    rw [hpy'] at hcall
    clear hpy'
    have hr:=Aside0.mk (Zec hall.out hy hpy)
    clear hpy
    go_wp2_with fail
    go_region_with (go_at_call 178;with_reducible refine hcall.mono ?_;rintro e w1 ⟨rfl,hb1⟩)
    all_goals
     go_wp2
     go_ret
     exact ⟨by rw [hr.out];rfl,hd.trans (hb1.mono hd.size)⟩
   ·have hpy':wyOk x.cells.length y=true:=hpy
    rw [hpy'] at hcall
    clear hpy'
    have hr:=Aside0.mk (Zbi hy hall.out hpy)
    clear hpy
    go_wp2_with fail
    go_region_with (go_at_call 178;with_reducible refine hcall.mono ?_;rintro e w1 ⟨rfl,hb1⟩)
    all_goals
     go_wp2
     refine ⟨⟨k+1,by omega,rfl,hr,(Zat hb).trans (hb1.mono (Zat hb).size)⟩, ?_⟩
     simp [intOf]
     omega
  ·have e:k=x.ways.length:=by omega
   have hr:=hall.out
   rw [e,List.take_length] at hr
   have hr:=Aside0.mk (Zcc hr)
   clear hall
   go_wp2
   go_ret
   exact ⟨by rw [hr.out];rfl,hwr⟩
theorem Zqy (x:Pln) (cs:List Value) (w:World) (hP:allK w x kPln cs) (hn:1≤x.nodes∧x.nodes≤4) :
  Calls Tryz.prog 138 #[.agg cs.toArray] w fun e w'=>e=.returned (.int .i64 (Zcm (fun k:Nat=>Zci x.slots (k:Int) (-1)) (List.range x.nodes.toNat):Nat))∧Below w.heap.size w w':=by
 obtain ⟨A1,c1,A2,c2,A3,c3,A4,c4,rfl,l1,r1,l2,r2,l3,r3,l4,r4⟩:=Zcs hP
 have hm:=Zax r1
 have hm2:=Zax r2
 obtain ⟨W,eW,hw0,N0⟩:=new1 w (.cells #[.int .i64 x.nodes,.int .i64 x.secret,.int .i64 x.fuel,.slice A1 x.cells.length c1,.slice A2 x.ways.length c2,.slice A3 x.slots.length c3,.slice A4 x.turns.length c4] 33)
 go_enter Tryz.func138,Tryz.ntmps138
 go_wp2
 refine wp_at eW ?_
 clear eW
 go_loopw [3] (fun i wr=>∃ k:Nat,k≤x.nodes.toNat∧i=.int .i64 k∧Aside0 (((List.range x.nodes.toNat).take k).all (fun k:Nat=>Zci x.slots (k:Int) (-1))=true)∧Below W.heap.size W wr) (fun i _=>x.nodes.toNat-(intOf i).toNat)
 case atStart=>exact ⟨0,Nat.zero_le _,rfl,⟨rfl⟩,brf_⟩
 case round =>
  obtain ⟨k,hk,rfl,hall,hb⟩:=hrel
  have hwr:=hw0.trans (hb.mono hw0.size)
  have Nr:=Zab N0 hb
  have hPr:=Zai hwr hP
  obtain ⟨p0,p1,p2,p3,p4,p5,p6⟩:=cellsP7 Nr
  by_cases hlt:k<x.nodes.toNat
  ·have hy:(List.range x.nodes.toNat)[k]? = some k:=Zbe hlt
   have hcall:=Zkj x _ wr hPr (k:Int) (-1)
   clear hPr
   cases hpy:(fun k:Nat=>Zci x.slots (k:Int) (-1)) k
   ·have hpy':Zci x.slots (k:Int) (-1)=false:=hpy
    rw [hpy'] at hcall
    have hr:=Aside0.mk (Zec hall.out hy hpy)
    clear hpy hpy' hall
    go_wp2_with (go_at_call 181;with_reducible refine hcall.mono ?_;rintro e w1 ⟨rfl,hb1⟩)
    go_ret
    exact ⟨by rw [hr.out];rfl,hwr.trans (hb1.mono hwr.size)⟩
   ·have hpy':Zci x.slots (k:Int) (-1)=true:=hpy
    rw [hpy'] at hcall
    have hr:=Aside0.mk (Zbi hy hall.out hpy)
    clear hpy hpy' hall
    go_wp2_with (go_at_call 181;with_reducible refine hcall.mono ?_;rintro e w1 ⟨rfl,hb1⟩)
    refine ⟨⟨k+1,by omega,rfl,hr,hb.trans (hb1.mono hb.size)⟩, ?_⟩
    simp [intOf]
    omega
  ·have e:k=x.nodes.toNat:=by omega
   have hr:=hall.out
   rw [e,List.take_of_length_le (by simp)] at hr
   have hr:=Aside0.mk ((Zcc hr).trans List.length_range)
   clear hall
   go_wp2
   go_ret
   exact ⟨by rw [hr.out];first | rfl | exact congrArg (fun z=>Ending.returned (Value.int .i64 z)) (show x.nodes=((x.nodes.toNat:Nat):Int) by omega),hwr⟩
theorem Zqz (x:Pln) (cs:List Value) (w:World) (hP:allK w x kPln cs) :
  Calls Tryz.prog 139 #[.agg cs.toArray] w fun e w'=>e=.returned (.int .i64 (Zcm (fun k:Nat=>Zci x.slots (-1) (k:Int)) (List.range x.ways.length):Nat))∧Below w.heap.size w w':=by
 obtain ⟨A1,c1,A2,c2,A3,c3,A4,c4,rfl,l1,r1,l2,r2,l3,r3,l4,r4⟩:=Zcs hP
 have hm:=Zax r1
 have hm2:=Zax r2
 obtain ⟨W,eW,hw0,N0⟩:=new1 w (.cells #[.int .i64 x.nodes,.int .i64 x.secret,.int .i64 x.fuel,.slice A1 x.cells.length c1,.slice A2 x.ways.length c2,.slice A3 x.slots.length c3,.slice A4 x.turns.length c4] 33)
 go_enter Tryz.func139,Tryz.ntmps139
 go_wp2
 refine wp_at eW ?_
 clear eW
 go_loopw [3] (fun i wr=>∃ k:Nat,k≤x.ways.length∧i=.int .i64 k∧Aside0 (((List.range x.ways.length).take k).all (fun k:Nat=>Zci x.slots (-1) (k:Int))=true)∧Below W.heap.size W wr) (fun i _=>x.ways.length-(intOf i).toNat)
 case atStart=>exact ⟨0,Nat.zero_le _,rfl,⟨rfl⟩,brf_⟩
 case round =>
  obtain ⟨k,hk,rfl,hall,hb⟩:=hrel
  have hwr:=hw0.trans (hb.mono hw0.size)
  have Nr:=Zab N0 hb
  have hPr:=Zai hwr hP
  obtain ⟨p0,p1,p2,p3,p4,p5,p6⟩:=cellsP7 Nr
  by_cases hlt:k<x.ways.length
  ·have hy:(List.range x.ways.length)[k]? = some k:=Zbe hlt
   have hcall:=Zkj x _ wr hPr (-1) (k:Int)
   clear hPr
   cases hpy:(fun k:Nat=>Zci x.slots (-1) (k:Int)) k
   ·have hpy':Zci x.slots (-1) (k:Int)=false:=hpy
    rw [hpy'] at hcall
    have hr:=Aside0.mk (Zec hall.out hy hpy)
    clear hpy hpy' hall
    go_wp2_with (go_at_call 181;with_reducible refine hcall.mono ?_;rintro e w1 ⟨rfl,hb1⟩)
    go_ret
    exact ⟨by rw [hr.out];rfl,hwr.trans (hb1.mono hwr.size)⟩
   ·have hpy':Zci x.slots (-1) (k:Int)=true:=hpy
    rw [hpy'] at hcall
    have hr:=Aside0.mk (Zbi hy hall.out hpy)
    clear hpy hpy' hall
    go_wp2_with (go_at_call 181;with_reducible refine hcall.mono ?_;rintro e w1 ⟨rfl,hb1⟩)
    refine ⟨⟨k+1,by omega,rfl,hr,hb.trans (hb1.mono hb.size)⟩, ?_⟩
    simp [intOf]
    omega
  ·have e:k=x.ways.length:=by omega
   have hr:=hall.out
   rw [e,List.take_of_length_le (by simp)] at hr
   have hr:=Aside0.mk ((Zcc hr).trans List.length_range)
   clear hall
   go_wp2
   go_ret
   exact ⟨by rw [hr.out];first | rfl | exact congrArg (fun z=>Ending.returned (Value.int .i64 z)) (show x.nodes=((x.nodes.toNat:Nat):Int) by omega),hwr⟩
theorem Zra (x:Pln) (cs:List Value) (w:World) (hP:allK w x kPln cs) (s:Slt) (hn:1≤x.nodes∧x.nodes≤4) (hW:Zhg x) :
  Calls Tryz.prog 180 #[.agg cs.toArray,.agg #[.int .i64 s.node,.int .i64 s.way]] w fun e w'=>e=.returned (.bool (Zfe x s))∧Below w.heap.size w w':=by
 obtain ⟨A1,c1,A2,c2,A3,c3,A4,c4,rfl,l1,r1,l2,r2,l3,r3,l4,r4⟩:=Zcs hP
 have hm:=Zax r2
 have hw0:Below w.heap.size w ((w.alloc (.cells #[.int .i64 x.nodes,.int .i64 x.secret,.int .i64 x.fuel,.slice A1 x.cells.length c1,.slice A2 x.ways.length c2,.slice A3 x.slots.length c3,.slice A4 x.turns.length c4] 33)).alloc (.cells #[.int .i64 s.node,.int .i64 s.way] 121)):=((brf_).alloc nlr_ _).alloc (by simp) _
 have q1:=fun w=>Zaz s.node 0 (x.nodes-1) w
 have q2:=fun w=>Zaz s.way (-1) ((x.ways.length:Int)-1) w
 cases h1:inB s.node 0 (x.nodes-1)
 ·rw [h1] at q1
  have hr:Aside0 (Zfe x s=false):=⟨by rw [Zfe,h1];rfl⟩
  clear h1
  go_enter Tryz.func180,Tryz.ntmps180
  go_wp2_with (go_at_call 94;with_reducible refine (q1 _).mono ?_;rintro e w1 ⟨rfl,rfl⟩)
  go_ret
  exact ⟨by rw [hr.out];rfl,hw0⟩
 ·rw [h1] at q1
  cases h2:inB s.way (-1) ((x.ways.length:Int)-1)
  ·rw [h2] at q2
   have hr:Aside0 (Zfe x s=false):=⟨by rw [Zfe,h1,h2];rfl⟩
   clear h1 h2
   go_enter Tryz.func180,Tryz.ntmps180
   go_wp2_with (first
    | (go_at_call 94;with_reducible refine (q2 _).mono ?_;rintro e w1 ⟨rfl,rfl⟩)
    | (go_at_call 94;with_reducible refine (q1 _).mono ?_;rintro e w1 ⟨rfl,rfl⟩))
   go_ret
   exact ⟨by rw [hr.out];rfl,hw0⟩
  ·rw [h2] at q2
   have hin:-1≤s.way∧s.way<(x.ways.length:Int):=by simp [inB] at h2;omega
   cases h3:(s.way == -1)
   ·have hne:s.way≠-1:=beq_eq_false_iff_ne.1 h3
    have i0:0≤s.way:=by omega
    have i1:=hin.2
    obtain ⟨y,hy⟩:=Zar x.ways (show s.way.toNat<x.ways.length by omega)
    obtain ⟨j0,j1,j2,j3⟩:=hW _ _ hy
    obtain ⟨z,hz⟩:=Zar x.cells (show y.frm.toNat<x.cells.length by omega)
    have hr:Aside0 (Zfe x s=(z.node==s.node)):=⟨by rw [Zfe,h1,h2,h3,Ziz hy,Zdl hz];rfl⟩
    have Na:=Zal (Zas w (.cells #[.int .i64 x.nodes,.int .i64 x.secret,.int .i64 x.fuel,.slice A1 x.cells.length c1,.slice A2 x.ways.length c2,.slice A3 x.slots.length c3,.slice A4 x.turns.length c4] 33)) (.cells #[.int .i64 s.node,.int .i64 s.way] 121)
    have Nb:=Zbs (g:=w.heap.size+1) (w.alloc (.cells #[.int .i64 x.nodes,.int .i64 x.secret,.int .i64 x.fuel,.slice A1 x.cells.length c1,.slice A2 x.ways.length c2,.slice A3 x.slots.length c3,.slice A4 x.turns.length c4] 33)) (.cells #[.int .i64 s.node,.int .i64 s.way] 121) (by simp)
    obtain ⟨ad,B1,d1,rfl,y0,y1,y2,y3,y4,m1,s1⟩:=Zhc (Zac r2 hw0) hy
    obtain ⟨bd,B2,d2,rfl,z0,z1,z2,z3,z4,m2,s2⟩:=Zed (Zac r1 hw0) hz
    clear h1 h2 hne hin hW s1 s2 hy hz
    go_enter Tryz.func180,Tryz.ntmps180
    go_upto_region 3 with (first
     | (go_at_call 94;with_reducible refine (q2 _).mono ?_;rintro e w1 ⟨rfl,rfl⟩)
     | (go_at_call 94;with_reducible refine (q1 _).mono ?_;rintro e w1 ⟨rfl,rfl⟩))
    change Code.wp _ _ _ _ ((w.alloc (.cells #[.int .i64 x.nodes,.int .i64 x.secret,.int .i64 x.fuel,.slice (some bd) x.cells.length c1,.slice (some ad) x.ways.length c2,.slice A3 x.slots.length c3,.slice A4 x.turns.length c4] 33)).alloc (.cells #[.int .i64 s.node,.int .i64 s.way] 121))
    generalize (w.alloc (.cells #[.int .i64 x.nodes,.int .i64 x.secret,.int .i64 x.fuel,.slice (some bd) x.cells.length c1,.slice (some ad) x.ways.length c2,.slice A3 x.slots.length c3,.slice A4 x.turns.length c4] 33)).alloc (.cells #[.int .i64 s.node,.int .i64 s.way] 121)=W at *
    obtain ⟨p0,p1,p2,p3,p4,p5,p6⟩:=cellsP7 Na
    obtain ⟨u0,u1⟩:=cellsP2 Nb
    clear Na Nb
    go_quiet (fail)
    go_wp2
    go_ret
    exact ⟨by rw [hr.out];rfl,Zay hw0 _⟩
   ·have hr:Aside0 (Zfe x s=true):=⟨by rw [Zfe,h1,h2,h3];rfl⟩
    have Nb:=Zbs (g:=w.heap.size+1) (w.alloc (.cells #[.int .i64 x.nodes,.int .i64 x.secret,.int .i64 x.fuel,.slice A1 x.cells.length c1,.slice A2 x.ways.length c2,.slice A3 x.slots.length c3,.slice A4 x.turns.length c4] 33)) (.cells #[.int .i64 s.node,.int .i64 s.way] 121) (by simp)
    clear h1 h2 hin hW
    go_enter Tryz.func180,Tryz.ntmps180
    go_upto_region 3 with (first
     | (go_at_call 94;with_reducible refine (q2 _).mono ?_;rintro e w1 ⟨rfl,rfl⟩)
     | (go_at_call 94;with_reducible refine (q1 _).mono ?_;rintro e w1 ⟨rfl,rfl⟩))
    change Code.wp _ _ _ _ ((w.alloc (.cells #[.int .i64 x.nodes,.int .i64 x.secret,.int .i64 x.fuel,.slice A1 x.cells.length c1,.slice A2 x.ways.length c2,.slice A3 x.slots.length c3,.slice A4 x.turns.length c4] 33)).alloc (.cells #[.int .i64 s.node,.int .i64 s.way] 121))
    generalize (w.alloc (.cells #[.int .i64 x.nodes,.int .i64 x.secret,.int .i64 x.fuel,.slice A1 x.cells.length c1,.slice A2 x.ways.length c2,.slice A3 x.slots.length c3,.slice A4 x.turns.length c4] 33)).alloc (.cells #[.int .i64 s.node,.int .i64 s.way] 121)=W at *
    obtain ⟨-,u1⟩:=cellsP2 Nb
    clear Nb
    go_quiet (fail)
    go_wp2
    go_ret
    exact ⟨by rw [hr.out];rfl,Zay hw0 _⟩
theorem Zoy (x:Pln) (cs:List Value) (w:World) (hP:allK w x kPln cs) (hn:1≤x.nodes∧x.nodes≤4) (hW:Zhg x) :
  Calls Tryz.prog 137 #[.agg cs.toArray] w fun e w'=>e=.returned (.int .i64 (Zcm (Zfe x) x.slots:Nat))∧Below w.heap.size w w':=by
 obtain ⟨A1,c1,A2,c2,A3,c3,A4,c4,rfl,l1,r1,l2,r2,l3,r3,l4,r4⟩:=Zcs hP
 have hm:=Zax r3
 obtain ⟨W,eW,hw0,N0⟩:=new1 w (.cells #[.int .i64 x.nodes,.int .i64 x.secret,.int .i64 x.fuel,.slice A1 x.cells.length c1,.slice A2 x.ways.length c2,.slice A3 x.slots.length c3,.slice A4 x.turns.length c4] 33)
 go_enter Tryz.func137,Tryz.ntmps137
 go_wp2
 refine wp_at eW ?_
 clear eW
 go_loopw [3] (fun i wr=>∃ k:Nat,k≤x.slots.length∧i=.int .i64 k∧Aside0 ((x.slots.take k).all (Zfe x)=true)∧Below W.heap.size W wr) (fun i _=>x.slots.length-(intOf i).toNat)
 case atStart=>exact ⟨0,Nat.zero_le _,rfl,⟨rfl⟩,brf_⟩
 case round =>
  obtain ⟨k,hk,rfl,hall,hb⟩:=hrel
  have hwr:=hw0.trans (hb.mono hw0.size)
  have Nr:=Zab N0 hb
  obtain ⟨p0,p1,p2,p3,p4,p5,p6⟩:=cellsP7 Nr
  by_cases hlt:k<x.slots.length
  ·obtain ⟨y,hy⟩:=Zar x.slots hlt
   have hd:=Zat hwr
   have hPd:=Zai hd hP
   have Nd:=Zdb Nr
   obtain ⟨g0,g1,g2,g3,g4,g5,g6⟩:=cellsP7 Nd
   obtain ⟨ad,rfl,y0,y1⟩:=Zoh (Zac r3 hd) hy
   have hcall:=Zra x _ _ hPd y hn hW
   clear hPd
   cases hpy:(Zfe x) y
   ·have hpy':Zfe x y=false:=hpy
    rw [hpy'] at hcall
    clear hpy'
    have hr:=Aside0.mk (Zec hall.out hy hpy)
    clear hpy
    go_wp2_with fail
    go_region_with (go_at_call 180;with_reducible refine hcall.mono ?_;rintro e w1 ⟨rfl,hb1⟩)
    all_goals
     go_wp2
     go_ret
     exact ⟨by rw [hr.out];rfl,hd.trans (hb1.mono hd.size)⟩
   ·have hpy':Zfe x y=true:=hpy
    rw [hpy'] at hcall
    clear hpy'
    have hr:=Aside0.mk (Zbi hy hall.out hpy)
    clear hpy
    go_wp2_with fail
    go_region_with (go_at_call 180;with_reducible refine hcall.mono ?_;rintro e w1 ⟨rfl,hb1⟩)
    all_goals
     go_wp2
     refine ⟨⟨k+1,by omega,rfl,hr,(Zat hb).trans (hb1.mono (Zat hb).size)⟩, ?_⟩
     simp [intOf]
     omega
  ·have e:k=x.slots.length:=by omega
   have hr:=hall.out
   rw [e,List.take_length] at hr
   have hr:=Aside0.mk (Zcc hr)
   clear hall
   go_wp2
   go_ret
   exact ⟨by rw [hr.out];rfl,hwr⟩
theorem Zrb (x:Pln) (cs:List Value) (w:World) (hP:allK w x kPln cs) (k:Nat) (t:List Int) (ht:x.turns[k]? = some t) :
  Calls Tryz.prog 182 #[.agg cs.toArray,.int .i64 k] w fun e w'=>e=.returned (.bool (Zfn x k))∧Below w.heap.size w w':=by
 obtain ⟨A1,c1,A2,c2,A3,c3,A4,c4,rfl,l1,r1,l2,r2,l3,r3,l4,r4⟩:=Zcs hP
 have hm:=Zax r1
 have hm4:=Zax r4
 have hkl:=(List.getElem?_eq_some_iff.1 ht).1
 have hw0:Below w.heap.size w (w.alloc (.cells #[.int .i64 x.nodes,.int .i64 x.secret,.int .i64 x.fuel,.slice A1 x.cells.length c1,.slice A2 x.ways.length c2,.slice A3 x.slots.length c3,.slice A4 x.turns.length c4] 33)):=(brf_).alloc nlr_ _
 have N0:=Zas w (.cells #[.int .i64 x.nodes,.int .i64 x.secret,.int .i64 x.fuel,.slice A1 x.cells.length c1,.slice A2 x.ways.length c2,.slice A3 x.slots.length c3,.slice A4 x.turns.length c4] 33)
 obtain ⟨ad,B1,d1,rfl,y0,m1,s1⟩:=Zhb r4 ht
 have hmt:=Zax s1
 have e0:=Zaa hw0 y0
 go_enter Tryz.func182,Tryz.ntmps182
 go_upto_region 1 with (fail)
 change Code.wp _ _ _ _ (w.alloc (.cells #[.int .i64 x.nodes,.int .i64 x.secret,.int .i64 x.fuel,.slice A1 x.cells.length c1,.slice A2 x.ways.length c2,.slice A3 x.slots.length c3,.slice (some ad) x.turns.length c4] 33))
 generalize w.alloc (.cells #[.int .i64 x.nodes,.int .i64 x.secret,.int .i64 x.fuel,.slice A1 x.cells.length c1,.slice A2 x.ways.length c2,.slice A3 x.slots.length c3,.slice (some ad) x.turns.length c4] 33)=W at *
 obtain ⟨p0,p1,p2,p3,p4,p5,p6⟩:=cellsP7 N0
 have hd:=Zat hw0
 cases hl:((t.length:Int) != (x.slots.length:Int))
 ·have hle:t.length=x.slots.length:=by have:=bne_eq_false_iff_eq.1 hl;omega
  have hto:Aside0 (Zfn x k=t.all (fun c:Int=>inB c (-1) ((x.cells.length:Int)-1)&&(decide (c<0)||Zel x c==(k:Int)))):=⟨by rw [Zfn,ht];simp only [hle,decide_true,Bool.true_and]⟩
  have hle:=Aside0.mk hle
  go_quiet (fail)
  rename_i nq
  clear hl
  have hwq:=Zay hw0 nq
  have Nq:=Zdy N0 nq
  clear p0 p1 p2 p3 p4 p5 p6 hd N0 e0
  generalize W.drewN nq=W2 at *
  have e0:=Zaa hwq y0
  obtain ⟨p0,p1,p2,p3,p4,p5,p6⟩:=cellsP7 Nq
  go_wp2
  clear e0 p0 p1 p2 p3 p4 p5 p6
  go_loopw [5] (fun i wr=>∃ j:Nat,j≤t.length∧i=.int .i64 j∧Aside0 ((t.take j).all (fun c:Int=>inB c (-1) ((x.cells.length:Int)-1)&&(decide (c<0)||Zel x c==(k:Int)))=true)∧Below W2.heap.size W2 wr) (fun i _=>t.length-(intOf i).toNat)
  case atStart=>exact ⟨0,Nat.zero_le _,rfl,⟨rfl⟩,brf_⟩
  case round =>
   obtain ⟨j,hj,rfl,hall,hb⟩:=hrel
   have hwr:=hwq.trans (hb.mono hwq.size)
   have Nr:=Zab Nq hb
   obtain ⟨p0,p1,p2,p3,p4,p5,p6⟩:=cellsP7 Nr
   have e0:=Zaa hwr y0
   by_cases hlt:j<t.length
   ·obtain ⟨c,hc⟩:=Zar t hlt
    obtain ⟨bd,rfl,v0⟩:=Zeq (Zac s1 hwr) hc
    have q1:=fun w=>Zaz c (-1) ((x.cells.length:Int)-1) w
    cases h1:inB c (-1) ((x.cells.length:Int)-1)
    ·rw [h1] at q1
     have hr:=Aside0.mk (Zcg (p:=(fun c:Int=>inB c (-1) ((x.cells.length:Int)-1)&&(decide (c<0)||Zel x c==(k:Int)))) hc (by (try dsimp only);rw [h1];rfl))
     clear h1
     go_wp2_with (go_at_call 94;with_reducible refine (q1 _).mono ?_;rintro e w1 ⟨rfl,rfl⟩)
     go_ret
     exact ⟨by rw [hto.out,hr.out];rfl,hwr⟩
    ·rw [h1] at q1
     by_cases h2:c<0
     ·have hr:=Aside0.mk (Zbi (p:=(fun c:Int=>inB c (-1) ((x.cells.length:Int)-1)&&(decide (c<0)||Zel x c==(k:Int)))) hc hall.out (by (try dsimp only);rw [h1,decide_eq_true h2];rfl))
      clear h1
      go_wp2_with (go_at_call 94;with_reducible refine (q1 _).mono ?_;rintro e w1 ⟨rfl,rfl⟩)
      refine ⟨⟨j+1,by omega,rfl,hr,hb⟩, ?_⟩
      simp [intOf]
      omega
     ·have hcc:c<(x.cells.length:Int):=by simp [inB] at h1;omega
      obtain ⟨z,hz⟩:=Zar x.cells (show c.toNat<x.cells.length by omega)
      obtain ⟨cd,B2,d2,rfl,z0,z1,z2,z3,z4,m2,s2⟩:=Zed (Zac r1 hwr) hz
      have hna:=Zdl hz
      cases h3:(z.node != (k:Int))
      ·have h3':(Zel x c==(k:Int))=true:=by rw [hna,bne_eq_false_iff_eq.1 h3];exact beq_self_eq_true _
       have hr:=Aside0.mk (Zbi (p:=(fun c:Int=>inB c (-1) ((x.cells.length:Int)-1)&&(decide (c<0)||Zel x c==(k:Int)))) hc hall.out (by (try dsimp only);rw [h1,decide_eq_false h2,h3'];rfl))
       clear h1 h3' hna s2
       go_wp2_with (go_at_call 94;with_reducible refine (q1 _).mono ?_;rintro e w1 ⟨rfl,rfl⟩)
       refine ⟨⟨j+1,by omega,rfl,hr,hb⟩, ?_⟩
       simp [intOf]
       omega
      ·have h3':(Zel x c==(k:Int))=false:=by rw [hna];exact beq_eq_false_iff_ne.2 (bne_iff_ne.1 h3)
       have hr:=Aside0.mk (Zcg (p:=(fun c:Int=>inB c (-1) ((x.cells.length:Int)-1)&&(decide (c<0)||Zel x c==(k:Int)))) hc (by (try dsimp only);rw [h1,decide_eq_false h2,h3'];rfl))
       clear h1 h3' hna s2
       go_wp2_with (go_at_call 94;with_reducible refine (q1 _).mono ?_;rintro e w1 ⟨rfl,rfl⟩)
       go_ret
       exact ⟨by rw [hto.out,hr.out];rfl,hwr⟩
   ·have e:j=t.length:=by omega
    have hr:=hall.out
    rw [e,List.take_length] at hr
    have hr:=Aside0.mk hr
    clear hall
    go_wp2
    go_ret
    exact ⟨by rw [hto.out,hr.out];rfl,hwr⟩
 ·have hne:¬t.length=x.slots.length:=by have:=bne_iff_ne.1 hl;omega
  have hto:Aside0 (Zfn x k=false):=⟨by rw [Zfn,ht];simp only [decide_eq_false hne,Bool.false_and]⟩
  clear hne
  go_quiet (fail)
  go_wp2
  go_ret
  exact ⟨by rw [hto.out];rfl,Zay hw0 _⟩
theorem Zoz (x:Pln) (cs:List Value) (w:World) (hP:allK w x kPln cs) (hn:1≤x.nodes∧x.nodes≤4) (ht:(x.turns.length:Int)=x.nodes) :
  Calls Tryz.prog 140 #[.agg cs.toArray] w fun e w'=>e=.returned (.int .i64 (Zcm (fun k:Nat=>Zfn x k) (List.range x.nodes.toNat):Nat))∧Below w.heap.size w w':=by
 obtain ⟨A1,c1,A2,c2,A3,c3,A4,c4,rfl,l1,r1,l2,r2,l3,r3,l4,r4⟩:=Zcs hP
 have hm:=Zax r1
 have hm2:=Zax r2
 obtain ⟨W,eW,hw0,N0⟩:=new1 w (.cells #[.int .i64 x.nodes,.int .i64 x.secret,.int .i64 x.fuel,.slice A1 x.cells.length c1,.slice A2 x.ways.length c2,.slice A3 x.slots.length c3,.slice A4 x.turns.length c4] 33)
 have d0:((x.turns.length:Int) != x.nodes)=false:=bne_eq_false_iff_eq.2 ht
 have hm4:=Zax r4
 go_enter Tryz.func140,Tryz.ntmps140
 go_wp2
 refine wp_at eW ?_
 clear eW
 go_loopw [3] (fun i wr=>∃ k:Nat,k≤x.nodes.toNat∧i=.int .i64 k∧Aside0 (((List.range x.nodes.toNat).take k).all (fun k:Nat=>Zfn x k)=true)∧Below W.heap.size W wr) (fun i _=>x.nodes.toNat-(intOf i).toNat)
 case atStart=>exact ⟨0,Nat.zero_le _,rfl,⟨rfl⟩,brf_⟩
 case round =>
  obtain ⟨k,hk,rfl,hall,hb⟩:=hrel
  have hwr:=hw0.trans (hb.mono hw0.size)
  have Nr:=Zab N0 hb
  have hPr:=Zai hwr hP
  obtain ⟨p0,p1,p2,p3,p4,p5,p6⟩:=cellsP7 Nr
  by_cases hlt:k<x.nodes.toNat
  ·have hy:(List.range x.nodes.toNat)[k]? = some k:=Zbe hlt
   have hcall:=Zrb x _ wr hPr k _ (List.getElem?_eq_getElem (show k<x.turns.length by omega))
   clear hPr
   cases hpy:(fun k:Nat=>Zfn x k) k
   ·have hpy':Zfn x k=false:=hpy
    rw [hpy'] at hcall
    have hr:=Aside0.mk (Zec hall.out hy hpy)
    clear hpy hpy' hall
    go_wp2_with (go_at_call 182;with_reducible refine hcall.mono ?_;rintro e w1 ⟨rfl,hb1⟩)
    go_ret
    exact ⟨by rw [hr.out];rfl,hwr.trans (hb1.mono hwr.size)⟩
   ·have hpy':Zfn x k=true:=hpy
    rw [hpy'] at hcall
    have hr:=Aside0.mk (Zbi hy hall.out hpy)
    clear hpy hpy' hall
    go_wp2_with (go_at_call 182;with_reducible refine hcall.mono ?_;rintro e w1 ⟨rfl,hb1⟩)
    refine ⟨⟨k+1,by omega,rfl,hr,hb.trans (hb1.mono hb.size)⟩, ?_⟩
    simp [intOf]
    omega
  ·have e:k=x.nodes.toNat:=by omega
   have hr:=hall.out
   rw [e,List.take_of_length_le (by simp)] at hr
   have hr:=Aside0.mk ((Zcc hr).trans List.length_range)
   clear hall
   go_wp2
   go_ret
   exact ⟨by rw [hr.out];first | rfl | exact congrArg (fun z=>Ending.returned (Value.int .i64 z)) (show x.nodes=((x.nodes.toNat:Nat):Int) by omega),hwr⟩
theorem Zpa (x:Pln) (cs:List Value) (w:World) (hP:allK w x kPln cs) (ht:¬(x.turns.length:Int)=x.nodes) :
  Calls Tryz.prog 140 #[.agg cs.toArray] w fun e w'=>e=.returned (.int .i64 0)∧Below w.heap.size w w':=by
 obtain ⟨A1,c1,A2,c2,A3,c3,A4,c4,rfl,l1,r1,l2,r2,l3,r3,l4,r4⟩:=Zcs hP
 have hm4:=Zax r4
 have d0:((x.turns.length:Int) != x.nodes)=true:=bne_iff_ne.2 ht
 have hw0:Below w.heap.size w (w.alloc (.cells #[.int .i64 x.nodes,.int .i64 x.secret,.int .i64 x.fuel,.slice A1 x.cells.length c1,.slice A2 x.ways.length c2,.slice A3 x.slots.length c3,.slice A4 x.turns.length c4] 33)):=(brf_).alloc nlr_ _
 go_enter Tryz.func140,Tryz.ntmps140
 go_wp2
 go_ret
 exact ⟨rfl,hw0⟩
theorem Zrc (x:Pln) (cs:List Value) (w:World) (hP:allK w x kPln cs) (k:Nat) (z:Cel) (hz:x.cells[k]? = some z) (hA0:∀ (j:Nat) (o:Ord),z.code[j]? = some o→(o.op=9∨o.op=10)→0≤o.a) :
  Calls Tryz.prog 183 #[.agg cs.toArray,.int .i64 k] w fun e w'=>e=.returned (.bool (Zfs x k))∧Below w.heap.size w w':=by
 obtain ⟨A1,c1,A2,c2,A3,c3,A4,c4,rfl,l1,r1,l2,r2,l3,r3,l4,r4⟩:=Zcs hP
 have hm:=Zax r1
 have hm2:=Zax r2
 have hkl:=(List.getElem?_eq_some_iff.1 hz).1
 have hto:Aside0 (Zfs x k=z.code.all (Zdm x k)):=⟨by rw [Zfs,hz]⟩
 have hw0:Below w.heap.size w (w.alloc (.cells #[.int .i64 x.nodes,.int .i64 x.secret,.int .i64 x.fuel,.slice A1 x.cells.length c1,.slice A2 x.ways.length c2,.slice A3 x.slots.length c3,.slice A4 x.turns.length c4] 33)):=(brf_).alloc nlr_ _
 have N0:=Zas w (.cells #[.int .i64 x.nodes,.int .i64 x.secret,.int .i64 x.fuel,.slice A1 x.cells.length c1,.slice A2 x.ways.length c2,.slice A3 x.slots.length c3,.slice A4 x.turns.length c4] 33)
 obtain ⟨ad,B1,d1,rfl,z0,z1,z2,z3,z4,m1,s1⟩:=Zed (Zac r1 hw0) hz
 have hmc:=Zax s1
 go_enter Tryz.func183,Tryz.ntmps183
 go_wp2
 change Code.wp _ _ _ _ (w.alloc (.cells #[.int .i64 x.nodes,.int .i64 x.secret,.int .i64 x.fuel,.slice (some ad) x.cells.length c1,.slice A2 x.ways.length c2,.slice A3 x.slots.length c3,.slice A4 x.turns.length c4] 33))
 generalize w.alloc (.cells #[.int .i64 x.nodes,.int .i64 x.secret,.int .i64 x.fuel,.slice (some ad) x.cells.length c1,.slice A2 x.ways.length c2,.slice A3 x.slots.length c3,.slice A4 x.turns.length c4] 33)=W at *
 clear z0 z1 z2 z3 z4
 go_loopw [6] (fun i wr=>∃ j:Nat,j≤z.code.length∧i=.int .i64 j∧Aside0 ((z.code.take j).all (Zdm x k)=true)∧Below W.heap.size W wr) (fun i _=>z.code.length-(intOf i).toNat)
 case atStart=>exact ⟨0,Nat.zero_le _,rfl,⟨rfl⟩,brf_⟩
 case round =>
  obtain ⟨j,hj,rfl,hall,hb⟩:=hrel
  have hwr:=hw0.trans (hb.mono hw0.size)
  have Nr:=Zab N0 hb
  obtain ⟨p0,p1,p2,p3,p4,p5,p6⟩:=cellsP7 Nr
  by_cases hlt:j<z.code.length
  ·obtain ⟨o,ho⟩:=Zar z.code hlt
   obtain ⟨od,rfl,o0,o1,o2,o3⟩:=Zog (Zac s1 hb) ho
   have hge:=hA0 j o ho
   have hwa:=hwr.alloc hwr.size (.cells #[.int .i64 o.op,.int .i64 o.a,.int .i64 o.b,.int .i64 o.c] 181)
   have Nw:=Zal Nr (.cells #[.int .i64 o.op,.int .i64 o.a,.int .i64 o.b,.int .i64 o.c] 181)
   obtain ⟨pw0,pw1,pw2,pw3,pw4,pw5,pw6⟩:=cellsP7 Nw
   by_cases h9:o.op=9
   ·have hge:=hge (.inl h9)
    have d9:(o.op==9)=true:=by rw [h9];rfl
    have d10:(o.op==10)=false:=by rw [h9];rfl
    by_cases ha:(x.ways.length:Int)≤o.a
    ·have hr:=Aside0.mk (Zcg (p:=Zdm x k) ho (by rw [Zdm,if_pos h9,decide_eq_false (by omega)];rfl))
     clear h9
     go_wp2
     go_ret
     exact ⟨by rw [hto.out,hr.out];rfl,hwr.alloc hwr.size _⟩
    ·obtain ⟨y,hy⟩:=Zar x.ways (show o.a.toNat<x.ways.length by omega)
     obtain ⟨wd,B3,d3,rfl,y0,y1,y2,y3,y4,m3,s3⟩:=Zhc (Zac r2 hwa) hy
     have ha1:o.a<(x.ways.length:Int):=by omega
     cases h3:(y.frm != (k:Int))
     ·have hr:=Aside0.mk (Zbi (p:=Zdm x k) ho hall.out (by rw [Zdm,if_pos h9,decide_eq_true ha1,hy];simp only [bne_eq_false_iff_eq.1 h3,beq_self_eq_true,Bool.and_self]))
      clear h9
      clear hy s3
      go_wp2
      refine ⟨⟨j+1,by omega,rfl,hr,(hb.alloc hb.size _)⟩, ?_⟩
      simp [intOf]
      omega
     ·have hr:=Aside0.mk (Zcg (p:=Zdm x k) ho (by rw [Zdm,if_pos h9,decide_eq_true ha1,hy];simp only [beq_eq_false_iff_ne.2 (bne_iff_ne.1 h3),Bool.and_false]))
      clear h9
      clear hy s3
      go_wp2
      go_ret
      exact ⟨by rw [hto.out,hr.out];rfl,hwr.alloc hwr.size _⟩
   ·by_cases h10:o.op=10
    ·have hge:=hge (.inr h10)
     have d9:(o.op==9)=false:=beq_eq_false_iff_ne.2 h9
     have d10:(o.op==10)=true:=by rw [h10];rfl
     by_cases ha:(x.ways.length:Int)≤o.a
     ·have hr:=Aside0.mk (Zcg (p:=Zdm x k) ho (by rw [Zdm,if_neg h9,if_pos h10,decide_eq_false (by omega)];rfl))
      clear h9 h10
      go_wp2
      go_ret
      exact ⟨by rw [hto.out,hr.out];rfl,hwr.alloc hwr.size _⟩
     ·obtain ⟨y,hy⟩:=Zar x.ways (show o.a.toNat<x.ways.length by omega)
      obtain ⟨wd,B3,d3,rfl,y0,y1,y2,y3,y4,m3,s3⟩:=Zhc (Zac r2 hwa) hy
      have ha1:o.a<(x.ways.length:Int):=by omega
      cases h3:(y.dst != (k:Int))
      ·have hr:=Aside0.mk (Zbi (p:=Zdm x k) ho hall.out (by rw [Zdm,if_neg h9,if_pos h10,decide_eq_true ha1,hy];simp only [bne_eq_false_iff_eq.1 h3,beq_self_eq_true,Bool.and_self]))
       clear h9 h10
       clear hy s3
       go_wp2
       refine ⟨⟨j+1,by omega,rfl,hr,(hb.alloc hb.size _)⟩, ?_⟩
       simp [intOf]
       omega
      ·have hr:=Aside0.mk (Zcg (p:=Zdm x k) ho (by rw [Zdm,if_neg h9,if_pos h10,decide_eq_true ha1,hy];simp only [beq_eq_false_iff_ne.2 (bne_iff_ne.1 h3),Bool.and_false]))
       clear h9 h10
       clear hy s3
       go_wp2
       go_ret
       exact ⟨by rw [hto.out,hr.out];rfl,hwr.alloc hwr.size _⟩
    ·have hr:=Aside0.mk (Zbi (p:=Zdm x k) ho hall.out (by rw [Zdm,if_neg h9,if_neg h10]))
     have d9:(o.op==9)=false:=beq_eq_false_iff_ne.2 h9
     have d10:(o.op==10)=false:=beq_eq_false_iff_ne.2 h10
     clear h9 h10 hge
     go_wp2
     refine ⟨⟨j+1,by omega,rfl,hr,(hb.alloc hb.size _)⟩, ?_⟩
     simp [intOf]
     omega
  ·have e:j=z.code.length:=by omega
   have hr:=hall.out
   rw [e,List.take_length] at hr
   have hr:=Aside0.mk hr
   clear hall
   go_wp2
   go_ret
   exact ⟨by rw [hto.out,hr.out];rfl,hwr⟩
theorem Zpb (x:Pln) (cs:List Value) (w:World) (hP:allK w x kPln cs) (hA0:∀ (k:Nat) (z:Cel),x.cells[k]? = some z→∀ (j:Nat) (o:Ord),z.code[j]? = some o→(o.op=9∨o.op=10)→0≤o.a) :
  Calls Tryz.prog 142 #[.agg cs.toArray] w fun e w'=>e=.returned (.int .i64 (Zcm (fun k:Nat=>Zfs x k) (List.range x.cells.length):Nat))∧Below w.heap.size w w':=by
 obtain ⟨A1,c1,A2,c2,A3,c3,A4,c4,rfl,l1,r1,l2,r2,l3,r3,l4,r4⟩:=Zcs hP
 have hm:=Zax r1
 have hm2:=Zax r2
 obtain ⟨W,eW,hw0,N0⟩:=new1 w (.cells #[.int .i64 x.nodes,.int .i64 x.secret,.int .i64 x.fuel,.slice A1 x.cells.length c1,.slice A2 x.ways.length c2,.slice A3 x.slots.length c3,.slice A4 x.turns.length c4] 33)
 go_enter Tryz.func142,Tryz.ntmps142
 go_wp2
 refine wp_at eW ?_
 clear eW
 go_loopw [3] (fun i wr=>∃ k:Nat,k≤x.cells.length∧i=.int .i64 k∧Aside0 (((List.range x.cells.length).take k).all (fun k:Nat=>Zfs x k)=true)∧Below W.heap.size W wr) (fun i _=>x.cells.length-(intOf i).toNat)
 case atStart=>exact ⟨0,Nat.zero_le _,rfl,⟨rfl⟩,brf_⟩
 case round =>
  obtain ⟨k,hk,rfl,hall,hb⟩:=hrel
  have hwr:=hw0.trans (hb.mono hw0.size)
  have Nr:=Zab N0 hb
  have hPr:=Zai hwr hP
  obtain ⟨p0,p1,p2,p3,p4,p5,p6⟩:=cellsP7 Nr
  by_cases hlt:k<x.cells.length
  ·have hy:(List.range x.cells.length)[k]? = some k:=Zbe hlt
   have hcall:=Zrc x _ wr hPr k _ (List.getElem?_eq_getElem hlt) (hA0 k _ (List.getElem?_eq_getElem hlt))
   clear hPr
   cases hpy:(fun k:Nat=>Zfs x k) k
   ·have hpy':Zfs x k=false:=hpy
    rw [hpy'] at hcall
    have hr:=Aside0.mk (Zec hall.out hy hpy)
    clear hpy hpy' hall
    go_wp2_with (go_at_call 183;with_reducible refine hcall.mono ?_;rintro e w1 ⟨rfl,hb1⟩)
    go_ret
    exact ⟨by rw [hr.out];rfl,hwr.trans (hb1.mono hwr.size)⟩
   ·have hpy':Zfs x k=true:=hpy
    rw [hpy'] at hcall
    have hr:=Aside0.mk (Zbi hy hall.out hpy)
    clear hpy hpy' hall
    go_wp2_with (go_at_call 183;with_reducible refine hcall.mono ?_;rintro e w1 ⟨rfl,hb1⟩)
    refine ⟨⟨k+1,by omega,rfl,hr,hb.trans (hb1.mono hb.size)⟩, ?_⟩
    simp [intOf]
    omega
  ·have e:k=x.cells.length:=by omega
   have hr:=hall.out
   rw [e,List.take_of_length_le (by simp)] at hr
   have hr:=Aside0.mk ((Zcc hr).trans List.length_range)
   clear hall
   go_wp2
   go_ret
   exact ⟨by rw [hr.out];first | rfl | exact congrArg (fun z=>Ending.returned (Value.int .i64 z)) (show x.nodes=((x.nodes.toNat:Nat):Int) by omega),hwr⟩
theorem Zrd (x:Pln) (cs:List Value) (w:World) (hP:allK w x kPln cs) (hT:∀ (k:Nat) (z:Cel),x.cells[k]? = some z→0≤z.node∧∃ t,x.turns[z.node.toNat]? = some t∧t.length=x.slots.length) :
  Calls Tryz.prog 141 #[.agg cs.toArray] w fun e w'=>e=.returned (.int .i64 (Zcm (fun k:Nat=>Zgg x k) (List.range x.cells.length):Nat))∧Below w.heap.size w w':=by
 obtain ⟨A1,c1,A2,c2,A3,c3,A4,c4,rfl,l1,r1,l2,r2,l3,r3,l4,r4⟩:=Zcs hP
 have hm:=Zax r1
 have hm3:=Zax r3
 have hm4:=Zax r4
 obtain ⟨W,eW,hw0,N0⟩:=new1 w (.cells #[.int .i64 x.nodes,.int .i64 x.secret,.int .i64 x.fuel,.slice A1 x.cells.length c1,.slice A2 x.ways.length c2,.slice A3 x.slots.length c3,.slice A4 x.turns.length c4] 33)
 go_enter Tryz.func141,Tryz.ntmps141
 go_wp2
 refine wp_at eW ?_
 clear eW
 go_loopw [3] (fun i wr=>∃ k:Nat,k≤x.cells.length∧i=.int .i64 k∧Aside0 (((List.range x.cells.length).take k).all (fun k:Nat=>Zgg x k)=true)∧Below W.heap.size W wr) (fun i _=>x.cells.length-(intOf i).toNat)
 case atStart=>exact ⟨0,Nat.zero_le _,rfl,⟨rfl⟩,brf_⟩
 case round =>
  obtain ⟨k,hk,rfl,hall,hb⟩:=hrel
  have hwr:=hw0.trans (hb.mono hw0.size)
  have Nr:=Zab N0 hb
  obtain ⟨p0,p1,p2,p3,p4,p5,p6⟩:=cellsP7 Nr
  by_cases hlt:k<x.cells.length
  ·obtain ⟨z,hz⟩:=Zar x.cells hlt
   obtain ⟨hz0,t,ht,htl⟩:=hT k z hz
   have hzt:=(List.getElem?_eq_some_iff.1 ht).1
   have hid:Aside0 (Zgg x k=t.any fun c=>c==(k:Int)):=⟨by rw [Zgg,Zdl (show x.cells[((k:Nat):Int).toNat]? = some z from hz),ht]⟩
   have htl:=Aside0.mk htl
   rename World=>wo
   go_wp2
   go_loopw [4,5] (fun h i wq=>∃ j:Nat,j≤x.slots.length∧i=.int .i64 j∧h=.bool ((t.take j).any fun c=>c==(k:Int))∧Below wo.heap.size wo wq) (fun _ i _=>x.slots.length-(intOf i).toNat)
   case atStart=>exact ⟨0,Nat.zero_le _,rfl,rfl,brf_⟩
   case round =>
    obtain ⟨j,hj,rfl,rfl,hq⟩:=hrel
    have hwq:=hwr.trans (hq.mono hwr.size)
    have Nq:=Zab Nr hq
    obtain ⟨pq0,pq1,pq2,pq3,pq4,pq5,pq6⟩:=cellsP7 Nq
    by_cases hjl:j<x.slots.length
    ·obtain ⟨c,hc⟩:=Zar t (show j<t.length by rw [htl.out];exact hjl)
     obtain ⟨ad,B1,d1,rfl,z0,z1,z2,z3,z4,m1,s1⟩:=Zed (Zac r1 hwq) hz
     obtain ⟨td,B2,d2,rfl,u0,m2,s2⟩:=Zhb (Zac r4 hwq) ht
     obtain ⟨cd,rfl,v0⟩:=Zeq s2 hc
     have htj:=List.take_succ_eq_append_getElem (List.getElem?_eq_some_iff.1 hc).1
     have hj2:j<t.length:=by rw [htl.out];exact hjl
     rw [(List.getElem?_eq_some_iff.1 hc).2] at htj
     have htj:=Aside0.mk htj
     have hzl:z.node<(x.turns.length:Int):=by omega
     have hjt:(j:Int)<(t.length:Int):=by omega
     clear s1 s2
     generalize hold:((t.take j).any fun c=>c==(k:Int))=old at *
     have hold:=Aside0.mk hold
     cases hck:(c==(k:Int))
     ·go_wp2_with fail
      go_quiet (fail)
      rename_i nq
      have hqd:=Zay hq nq
      go_wp2
      refine ⟨⟨j+1,by omega,rfl,by rw [htj.out,List.any_append,hold.out];simp [hck],hqd⟩, ?_⟩
      simp [intOf]
      omega
     ·go_wp2_with fail
      go_quiet (fail)
      rename_i nq
      have hqd:=Zay hq nq
      go_wp2
      refine ⟨⟨j+1,by omega,rfl,by rw [htj.out,List.any_append,hold.out];simp [hck],hqd⟩, ?_⟩
      simp [intOf]
      omega
    ·have e:j=t.length:=by rw [htl.out];omega
     have hfin:Aside0 (((t.take j).any fun c=>c==(k:Int))=Zgg x k):=⟨by rw [hid.out,e,List.take_length]⟩
     have hq2:=hb.trans (hq.mono hb.size)
     have hy:(List.range x.cells.length)[k]? = some k:=Zbe hlt
     rw [hfin.out]
     clear hid hfin e
     cases hi:Zgg x k
     ·have hr:=Aside0.mk (Zec hall.out hy hi)
      clear hi
      go_wp2
      go_ret
      exact ⟨by rw [hr.out];rfl,hwq⟩
     ·have hr:=Aside0.mk (Zbi hy hall.out hi)
      clear hi
      go_wp2
      refine ⟨⟨k+1,by omega,rfl,hr,hq2⟩, ?_⟩
      simp [intOf]
      omega
  ·have e:k=x.cells.length:=by omega
   have hr:=hall.out
   rw [e,List.take_of_length_le (by simp)] at hr
   have hr:=Aside0.mk ((Zcc hr).trans List.length_range)
   clear hall
   go_wp2
   go_ret
   exact ⟨by rw [hr.out];rfl,hwr⟩
end Go.Proofs.YtaeckoinpllpnaaGreat
