/- Part 10 of the proof of its last text: this session's own texts, shortened and joined by a program of its own (wip/pack.py). -/
import Derived.Test.YtaeckoinpllpnaaGreatTai
import Derived.Test.YtaeckoinpllpnaaGreatTag
import Derived.Test.YtaeckoinpllpnaaGreatTaa
import Derived.Test.YtaeckoinpllpnaaGreatTaf
set_option linter.unusedVariables false
set_option linter.unusedSimpArgs false
set_option maxHeartbeats 16000000
set_option maxRecDepth 100000
namespace Go.Proofs.YtaeckoinpllpnaaGreat
open Go.RowKit Go.Proofs.YtaeckoinpllpnaaGreatW.PrintWords
theorem Zie (A B:Option Addr) (c d m:Nat) (xs:List Int) (w:World) (hA:Rd kInt w A xs) (hB:Rd kInt w B xs) (hl:xs.length=m) :
  Calls Tryz.prog 245 #[.slice A m c,.slice B m d] w fun e w'=>e=.returned (.bool true)∧Below w.heap.size w w':=by
 have hm:=Zax hA
 subst hl
 go_enter Tryz.func245,Tryz.ntmps245
 go_wp2
 go_loopw [13] (fun i wr=>∃ k:Nat,k≤xs.length∧i=.int .i64 k∧Below w.heap.size w wr) (fun i _=>xs.length-(intOf i).toNat)
 case atStart=>exact ⟨0,Nat.zero_le _,rfl,brf_⟩
 case round =>
  obtain ⟨k,hk,rfl,hb⟩:=hrel
  by_cases hlt:k<xs.length
  ·obtain ⟨x,hx⟩:=Zar xs hlt
   obtain ⟨ad,rfl,a0⟩:=Zeq (Zac hA hb) hx
   obtain ⟨bd,rfl,b0⟩:=Zeq (Zac hB hb) hx
   clear hx
   go_wp2_with (fail)
   refine Zan (by kernel_rfl) (by kernel_rfl) ?_
   have hx:=Zbg wr
   repeat (go_big_quiet_step (fail))
   refine wpQuiet_nil ?_
   rintro _ ⟨wt,rfl⟩
   have hbx:=Zam wr wt
   clear hx
   go_wp2
   refine ⟨⟨k+1,by omega,rfl,hb.trans (hbx.mono hb.size)⟩, ?_⟩
   simp [intOf]
   omega
  ·have e:k=xs.length:=by omega
   subst e
   go_wp2
   go_ret
   exact ⟨rfl,hb⟩
theorem Zqm (A B:Option Addr) (c d:Nat) (w:World) (hA:Rd Zdh w A []) (hB:Rd Zdh w B []) :
  Calls Tryz.prog 238 #[.slice A 0 c,.slice B 0 d] w fun e w'=>e=.returned (.bool true)∧Below w.heap.size w w':=by
 have q1:=Kd.C_string (P:=Tryz.prog) (src:=101) (dst:=9) (c:=c) Tryz.underlying101 Tryz.underlying5 Tryz.underlying9 (Zqf hA)
 have q2:=Kd.C_string (P:=Tryz.prog) (src:=101) (dst:=9) (c:=d) Tryz.underlying101 Tryz.underlying5 Tryz.underlying9 (Zqf hB)
 simp only [List.length_nil] at q1 q2
 go_enter Tryz.func238,Tryz.ntmps238
 go_wp2
 go_ret
 exact ⟨rfl,brf_⟩
theorem Zin (n:Int) (w:World) (h:inB n 0 255=true) :
  Calls Tryz.prog 244 #[.int .i64 n] w fun e w'=>e=.returned (.bool true)∧w'=w:=by
 have h:=Zeg h
 have h1:decide (0≤n)=true:=decide_eq_true h.1
 have h2:decide (n≤255)=true:=decide_eq_true h.2
 go_enter Tryz.func244,Tryz.ntmps244
 go_wp2
 go_ret
 exact ⟨rfl,rfl⟩
theorem Ztt (A1 A2:Option Addr) (c1 c2:Nat) (w:World) (h1:Rd kInt w A1 (List.replicate 4 0)) (h2:Rd kInt w A2 (List.replicate 8 0)) :
  Calls Tryz.prog 236 #[.agg #[.int .i64 0,.slice A1 4 c1,.slice A2 8 c2,.int .i64 0]] w fun e w'=>e=.returned (.bool true)∧Below w.heap.size w w':=by
 obtain ⟨W,eW,hb0,N0⟩:=new1 w (.cells #[.int .i64 0,.slice A1 4 c1,.slice A2 8 c2,.int .i64 0] 100)
 go_enter Tryz.func236,Tryz.ntmps236
 go_upto_region 1 with (fail)
 refine wp_at eW ?_
 clear eW
 obtain ⟨a0,a1,a2,a3⟩:=cellsP4 N0
 go_wp2
 clear a0 a1 a2 a3
 have hi0:∀ w:World,(Instr.index 255 (.agg #[.slice A1 4 c1,.slice A2 8 c2]) (.int .i64 0)).run Tryz.prog w=.ok (.slice A1 4 c1) w:=by intro w;kernel_rfl
 have hi1:∀ w:World,(Instr.index 255 (.agg #[.slice A1 4 c1,.slice A2 8 c2]) (.int .i64 1)).run Tryz.prog w=.ok (.slice A2 8 c2) w:=by intro w;kernel_rfl
 go_loopw [32] (fun i wr=>(i=.int .i64 0∨i=.int .i64 1∨i=.int .i64 2)∧Below w.heap.size w wr∧Below W.heap.size W wr) (fun i _=>2-(intOf i).toNat)
 case atStart=>exact ⟨Or.inl rfl,hb0,brf_⟩
 case round =>
  obtain ⟨hi,hbw,hb⟩:=hrel
  rcases hi with rfl | rfl | rfl
  ·skip
   go_wp2
   go_loopw [37] (fun i wr=>∃ k:Nat,k≤4∧i=.int .i64 k∧Below w.heap.size w wr∧Below W.heap.size W wr) (fun i _=>4-(intOf i).toNat)
   case atStart=>exact ⟨0,Nat.zero_le _,rfl,hbw,hb⟩
   case round =>
    clear hb hbw
    obtain ⟨k,hk,rfl,hbw,hb⟩:=hrel
    by_cases hlt:k<4
    ·obtain ⟨x,hx⟩:=Zar (List.replicate 4 (0:Int)) (show k<(List.replicate 4 (0:Int)).length by simpa using hlt)
     obtain rfl:=Zko hx
     obtain ⟨ad,rfl,a0⟩:=Zeq (Zac h1 hbw) hx
     clear hx
     go_wp2_with (go_at_call 244;with_reducible refine (Zin 0 _ rfl).mono ?_;rintro e w9 ⟨rfl,hw9⟩;rw [hw9];clear hw9)
     refine ⟨⟨k+1,by omega,rfl,hbw,hb⟩, ?_⟩
     simp [intOf]
     omega
    ·have e:k=4:=by omega
     subst e
     go_wp2
     refine ⟨⟨Or.inr (Or.inl rfl),hbw,hb⟩, ?_⟩
     simp [intOf]
  ·skip
   go_wp2
   go_loopw [37] (fun i wr=>∃ k:Nat,k≤8∧i=.int .i64 k∧Below w.heap.size w wr∧Below W.heap.size W wr) (fun i _=>8-(intOf i).toNat)
   case atStart=>exact ⟨0,Nat.zero_le _,rfl,hbw,hb⟩
   case round =>
    clear hb hbw
    obtain ⟨k,hk,rfl,hbw,hb⟩:=hrel
    by_cases hlt:k<8
    ·obtain ⟨x,hx⟩:=Zar (List.replicate 8 (0:Int)) (show k<(List.replicate 8 (0:Int)).length by simpa using hlt)
     obtain rfl:=Zko hx
     obtain ⟨ad,rfl,a0⟩:=Zeq (Zac h2 hbw) hx
     clear hx
     go_wp2_with (go_at_call 244;with_reducible refine (Zin 0 _ rfl).mono ?_;rintro e w9 ⟨rfl,hw9⟩;rw [hw9];clear hw9)
     refine ⟨⟨k+1,by omega,rfl,hbw,hb⟩, ?_⟩
     simp [intOf]
     omega
    ·have e:k=8:=by omega
     subst e
     go_wp2
     refine ⟨⟨Or.inr (Or.inr rfl),hbw,hb⟩, ?_⟩
     simp [intOf]
  ·obtain ⟨-,-,-,a3⟩:=cellsP4 (Zab N0 hb)
   go_wp2
   go_ret
   exact ⟨rfl,hbw⟩
theorem Zsc (cs:List Value) (w:World) (hc:allK w Zbt Zby cs) :
  Calls Tryz.prog 220 #[.agg cs.toArray] w fun e w'=>e=.returned (.bool true)∧Below w.heap.size w w':=by
 obtain ⟨A1,c1,A2,c2,A3,c3,rfl,l1,r1,l2,r2,l3,r3⟩:=Zfp hc
 have hb0:=(Below.refl w.heap.size w).alloc nlr_ (.cells #[.int .i64 0,.slice A1 4 c1,.slice A2 8 c2,.int .i64 0,.slice A3 0 c3] 103)
 have N0:=Zas w (.cells #[.int .i64 0,.slice A1 4 c1,.slice A2 8 c2,.int .i64 0,.slice A3 0 c3] 103)
 have q:=Ztt A1 A2 c1 c2 _ (Zac r1 hb0) (Zac r2 hb0)
 change Calls _ _ #[.agg #[.int .i64 0,.slice A1 4 c1,.slice A2 8 c2,.int .i64 0,.slice A3 0 c3]] _ _
 go_enter Tryz.func220,Tryz.ntmps220
 go_wp2_with (go_at_call 236;with_reducible refine q.mono ?_;rintro e w1 ⟨rfl,hb9⟩;have e4:w1.cell? ⟨w.heap.size,4,none⟩=some (.slice A3 0 c3):=Zag (Zab N0 hb9) rfl)
 go_ret
 exact ⟨rfl,hb0.trans (hb9.mono hb0.size)⟩
theorem Zsd (d:Int) (hd:inB d 1 4=true) (A:Option Addr) (c:Nat) (w:World) :
  Calls Tryz.prog 222 #[.agg #[.int .i64 d,.slice A 0 c]] w fun e w'=>e=.returned (.bool true)∧Below w.heap.size w w':=by
 have hb0:=(Below.refl w.heap.size w).alloc nlr_ (.cells #[.int .i64 d,.slice A 0 c] 109)
 have hd:=Zeg hd
 have d1:decide (d<1)=false:=decide_eq_false (by omega)
 have d2:decide (4<d)=false:=decide_eq_false (by omega)
 have d3:decide (d<0)=false:=decide_eq_false (by omega)
 go_enter Tryz.func222,Tryz.ntmps222
 go_wp2
 go_loopw [24] (fun i wr=>i=.int .i64 0∧Below (w.alloc (.cells #[.int .i64 d,.slice A 0 c] 109)).heap.size (w.alloc (.cells #[.int .i64 d,.slice A 0 c] 109)) wr) (fun _ _=>0)
 case atStart=>exact ⟨rfl,brf_⟩
 case round =>
  obtain ⟨rfl,hb⟩:=hrel
  have hb1:=hb0.trans (hb.mono hb0.size)
  go_wp2
  go_ret
  exact ⟨rfl,hb1⟩
theorem Zse (A B:Option Addr) (c d n:Nat) (hn1:1≤n) (hn4:n≤4) (w:World) (hA:Rd kInt w A (List.replicate n 0)) (hB:Rd kInt w B (List.replicate n 0)) :
  Calls Tryz.prog 219 #[.agg #[.slice A n c,.slice B n d]] w fun e w'=>e=.returned (.bool true)∧Below w.heap.size w w':=by
 obtain ⟨W,eW,hb0,N0⟩:=new1 w (.cells #[.slice A n c,.slice B n d] 96)
 have d1:decide ((n:Int)<1)=false:=decide_eq_false (by omega)
 have d2:decide ((4:Int)<(n:Int))=false:=decide_eq_false (by omega)
 go_enter Tryz.func219,Tryz.ntmps219
 go_upto_region 1 with (fail)
 refine wp_at eW ?_
 clear eW
 obtain ⟨e0,e1⟩:=cellsP2 N0
 go_wp2
 clear e0 e1
 go_loopw [28] (fun i wr=>∃ k:Nat,k≤n∧i=.int .i64 k∧Below W.heap.size W wr) (fun i _=>n-(intOf i).toNat)
 case atStart=>exact ⟨0,Nat.zero_le _,rfl,brf_⟩
 case round =>
  obtain ⟨k,hk,rfl,hb⟩:=hrel
  have hb1:=hb0.trans (hb.mono hb0.size)
  obtain ⟨e0,e1⟩:=cellsP2 (Zab N0 hb)
  by_cases hlt:k<n
  ·obtain ⟨x,hx⟩:=Zar (List.replicate n (0:Int)) (show k<(List.replicate n (0:Int)).length by simpa using hlt)
   obtain rfl:=Zko hx
   obtain ⟨ad,rfl,a0⟩:=Zeq (Zac hA hb1) hx
   obtain ⟨bd,rfl,b0⟩:=Zeq (Zac hB hb1) hx
   clear hx
   go_wp2
   refine ⟨⟨k+1,by omega,rfl,hb⟩, ?_⟩
   simp [intOf]
   omega
  ·have e:k=n:=by omega
   subst e
   go_wp2
   go_ret
   exact ⟨rfl,hb1⟩
theorem Zqn (A1 A2 B1 B2:Option Addr) (c1 c2 d1 d2:Nat) (w:World) (r1:Rd kInt w A1 (List.replicate 4 0)) (r2:Rd kInt w A2 (List.replicate 8 0)) (s1:Rd kInt w B1 (List.replicate 4 0)) (s2:Rd kInt w B2 (List.replicate 8 0)) :
  Calls Tryz.prog 237 #[.agg #[.int .i64 0,.slice A1 4 c1,.slice A2 8 c2,.int .i64 0],.agg #[.int .i64 0,.slice B1 4 d1,.slice B2 8 d2,.int .i64 0]] w fun e w'=>e=.returned (.bool true)∧Below w.heap.size w w':=by
 obtain ⟨W,eW,hb0,N0,N1⟩:=new2 w (.cells #[.int .i64 0,.slice A1 4 c1,.slice A2 8 c2,.int .i64 0] 100) (.cells #[.int .i64 0,.slice B1 4 d1,.slice B2 8 d2,.int .i64 0] 100)
 have q1:=fun (w1:World) (h:Below w.heap.size w w1)=>Zie A1 B1 c1 d1 4 _ w1 (Zac r1 h) (Zac s1 h) rfl
 have q2:=fun (w1:World) (h:Below w.heap.size w w1)=>Zie A2 B2 c2 d2 8 _ w1 (Zac r2 h) (Zac s2 h) rfl
 go_enter Tryz.func237,Tryz.ntmps237
 go_upto_region 1 with (fail)
 refine wp_at eW ?_
 clear eW
 obtain ⟨a0,a1,-,a3⟩:=cellsP4 N0;obtain ⟨b0,b1,-,b3⟩:=cellsP4 N1
 go_wp2_with (first
  | (go_at_call 245;with_reducible refine (q2 _ hb1).mono ?_;rintro e w2 ⟨rfl,hb8⟩;have hb2:=hb1.trans (hb8.mono hb1.size))
  | (go_at_call 245;with_reducible refine (q1 _ hb0).mono ?_;rintro e w1 ⟨rfl,hb7⟩;have hb1:=hb0.trans (hb7.mono hb0.size);have M0:=Zab N0 hb7;have M1:=Zab N1 hb7;have g2:w1.cell? ⟨w.heap.size,2,none⟩=some (.slice A2 8 c2):=Zag M0 rfl;have h2:w1.cell? ⟨w.heap.size+1,2,none⟩=some (.slice B2 8 d2):=Zag M1 rfl))
 go_ret
 exact ⟨rfl,hb2⟩
theorem Zol (cs ds:List Value) (w:World) (hc:allK w Zbt Zby cs) (hd:allK w Zbt Zby ds) :
  Calls Tryz.prog 221 #[.agg cs.toArray,.agg ds.toArray] w fun e w'=>e=.returned (.bool true)∧Below w.heap.size w w':=by
 obtain ⟨A1,c1,A2,c2,A3,c3,rfl,l1,r1,l2,r2,l3,r3⟩:=Zfp hc
 obtain ⟨B1,d1,B2,d2,B3,d3,rfl,m1,s1,m2,s2,m3,s3⟩:=Zfp hd
 obtain ⟨W,eW,hb0,N0,N1⟩:=new2 w (.cells #[.int .i64 0,.slice A1 4 c1,.slice A2 8 c2,.int .i64 0,.slice A3 0 c3] 103) (.cells #[.int .i64 0,.slice B1 4 d1,.slice B2 8 d2,.int .i64 0,.slice B3 0 d3] 103)
 have q1:=fun (w1:World) (h:Below w.heap.size w w1)=>Zqn A1 A2 B1 B2 c1 c2 d1 d2 w1 (Zac r1 h) (Zac r2 h) (Zac s1 h) (Zac s2 h)
 have q3:=fun (w1:World) (h:Below w.heap.size w w1)=>Zqm A3 B3 c3 d3 w1 (Zac r3 h) (Zac s3 h)
 change Calls _ _ #[.agg #[.int .i64 0,.slice A1 4 c1,.slice A2 8 c2,.int .i64 0,.slice A3 0 c3],.agg #[.int .i64 0,.slice B1 4 d1,.slice B2 8 d2,.int .i64 0,.slice B3 0 d3]] _ _
 go_enter Tryz.func221,Tryz.ntmps221
 go_upto_region 1 with (fail)
 refine wp_at eW ?_
 clear eW
 obtain ⟨a0,a1,a2,a3⟩:=cellsP4 N0;obtain ⟨b0,b1,b2,b3⟩:=cellsP4 N1
 go_wp2_with (first
  | (go_at_call 238;with_reducible refine (q3 _ hb1).mono ?_;rintro e w2 ⟨rfl,hb8⟩;have hb2:=hb1.trans (hb8.mono hb1.size))
  | (go_at_call 237;with_reducible refine (q1 _ hb0).mono ?_;rintro e w1 ⟨rfl,hb7⟩;have hb1:=hb0.trans (hb7.mono hb0.size);have M0:=Zab N0 hb7;have M1:=Zab N1 hb7;have g4:w1.cell? ⟨w.heap.size,4,none⟩=some (.slice A3 0 c3):=Zag M0 rfl;have h4:w1.cell? ⟨w.heap.size+1,4,none⟩=some (.slice B3 0 d3):=Zag M1 rfl))
 go_ret
 exact ⟨rfl,hb2⟩
theorem Znr (y:Wy) (hd:inB y.depth 1 4=true) (A B:Option Addr) (c m d1:Nat) (may:Bool) (w:World) :
  Calls Tryz.prog 189 #[.agg #[.int .i64 y.depth,.slice A 0 c],.agg #[.int .i64 y.frm,.int .i64 y.dst,.int .i64 y.depth,.bool y.guarded,.slice B m d1],.bool may] w fun e w'=>e=.returned (.bool true)∧Below w.heap.size w w':=by
 have hb0:=((Below.refl w.heap.size w).alloc nlr_ (.cells #[.int .i64 y.depth,.slice A 0 c] 109)).alloc (by simp) (.cells #[.int .i64 y.frm,.int .i64 y.dst,.int .i64 y.depth,.bool y.guarded,.slice B m d1] 112)
 have N0:=Zal (Zas w (.cells #[.int .i64 y.depth,.slice A 0 c] 109)) (.cells #[.int .i64 y.frm,.int .i64 y.dst,.int .i64 y.depth,.bool y.guarded,.slice B m d1] 112)
 have N1:((w.alloc (.cells #[.int .i64 y.depth,.slice A 0 c] 109)).alloc (.cells #[.int .i64 y.frm,.int .i64 y.dst,.int .i64 y.depth,.bool y.guarded,.slice B m d1] 112)).heap[w.heap.size+1]? = _:=Zbs (w.alloc (.cells #[.int .i64 y.depth,.slice A 0 c] 109)) (.cells #[.int .i64 y.frm,.int .i64 y.dst,.int .i64 y.depth,.bool y.guarded,.slice B m d1] 112) (by simp)
 obtain ⟨gd,hgd⟩:∃ b,y.guarded=b:=⟨_,rfl⟩
 obtain ⟨dp,hdp⟩:∃ b,y.depth=b:=⟨_,rfl⟩
 rw [hdp] at hd
 have q:=fun w1=>Zsd dp hd A c w1
 rw [hgd,hdp] at N0 N1 hb0 ⊢
 cases may <;> (
  go_enter Tryz.func189,Tryz.ntmps189
  go_upto_region 1 with (fail)
  change Code.wp _ _ _ _ ((w.alloc (.cells #[.int .i64 dp,.slice A 0 c] 109)).alloc (.cells #[.int .i64 y.frm,.int .i64 y.dst,.int .i64 dp,.bool gd,.slice B m d1] 112))
  generalize ((w.alloc (.cells #[.int .i64 dp,.slice A 0 c] 109)).alloc (.cells #[.int .i64 y.frm,.int .i64 y.dst,.int .i64 dp,.bool gd,.slice B m d1] 112))=W at *
  obtain ⟨a0,a1⟩:=cellsP2 N0
  go_wp2_with (go_at_call 222;with_reducible refine (q _).mono ?_;rintro e w1 ⟨rfl,hb7⟩;have hb1:=hb0.trans (hb7.mono hb0.size);have M0:=Zab N0 hb7;have M1:=Zab N1 hb7;have g0:w1.cell? ⟨w.heap.size,0,none⟩=some (.int .i64 dp):=Zag M0 rfl;have g1:w1.cell? ⟨w.heap.size,1,none⟩=some (.slice A 0 c):=Zag M0 rfl;have g2:w1.cell? ⟨w.heap.size+1,2,none⟩=some (.int .i64 dp):=Zag M1 rfl)
  go_ret
  exact ⟨rfl,hb1⟩)
def Zul (x:Pln) (way node:Int):Bool:=begins x way==node&&ends x way != node
theorem Zkk (x:Pln) (cs:List Value) (w:World) (gp:Nat) (hP:allK w x kPln cs) (hN:∀ (i:Nat) (u:Value),cs[i]? = some u→w.cell? ⟨gp,i,none⟩=some u) (way node:Int) (i0:0≤way) (i1:way<(x.ways.length:Int)) (hW:Zhg x) :
  Calls Tryz.prog 117 #[.pointer (some ⟨gp,0,none⟩),.int .i64 way,.int .i64 node] w fun e w'=>e=.returned (.bool (Zul x way node))∧Below w.heap.size w w':=by
 have q1:=Zei x cs w gp hP hN way i0 i1 hW
 have q2:=fun w1 (hb:Below w.heap.size w w1)=>Zft x cs w1 gp (Zai hb hP) (fun i u h=>Zaa hb (hN i u h)) way i0 i1 hW
 clear hP hN hW i0 i1
 cases h:(begins x way==node)
 ·have hr:Aside0 (Zul x way node=false):=⟨by rw [Zul,h];rfl⟩
  go_enter Tryz.func117,Tryz.ntmps117
  go_wp2_with (go_at_call 64;with_reducible refine q1.mono ?_;rintro e w1 ⟨rfl,hb1⟩)
  go_ret
  exact ⟨by rw [hr.out];rfl,hb1⟩
 ·have hr:Aside0 (Zul x way node=(ends x way != node)):=⟨by rw [Zul,h];rfl⟩
  go_enter Tryz.func117,Tryz.ntmps117
  go_wp2_with (first
   | (go_at_call 65;with_reducible refine (q2 _ hb1).mono ?_;rintro e w2 ⟨rfl,hb2⟩)
   | (go_at_call 64;with_reducible refine q1.mono ?_;rintro e w1 ⟨rfl,hb1⟩))
  go_ret
  exact ⟨by rw [hr.out];rfl,hb1.trans (hb2.mono hb1.size)⟩
structure NoR (w:World) (x:Pln) (n:Nat) (A1 A2 A3 A4 A5 A6 A7:Option Addr):Prop where
 r1:Rd Zby w A1 (x.cells.map fun _=>Zbt)
 r2:Rd kBox w A2 (x.ways.map fun y=>Zbd y.depth)
 r3:Rd kBox w A3 (x.ways.map fun y=>Zbd y.depth)
 r4:Rd Zhm w A4 (x.ways.map fun _=>Zdr)
 r5:Rd kInI w A5 (x.ways.map fun _=>Zez)
 r6:Rd kInt w A6 (List.replicate n 0)
 r7:Rd kInt w A7 (List.replicate n 0)
theorem NoR.below {w w1:World} {x:Pln} {n:Nat} {A1 A2 A3 A4 A5 A6 A7:Option Addr} (h:NoR w x n A1 A2 A3 A4 A5 A6 A7) (hb:Below w.heap.size w w1):NoR w1 x n A1 A2 A3 A4 A5 A6 A7 :=
 ⟨Zac h.r1 hb,Zac h.r2 hb,Zac h.r3 hb,Zac h.r4 hb,Zac h.r5 hb,Zac h.r6 hb,Zac h.r7 hb⟩
theorem Zmb {w:World} {x:Pln} {n:Nat} {b:Int} {up:Bool} {cs:List Value} (hn:x.nodes=(n:Int)) (h:allK w (Zbm x b up) kNod cs) :
  ∃ A1 c1 A2 c2 A3 c3 A4 c4 A5 c5 A6 c6 A7 c7,cs=[.bool up,.int .i64 b,.int .i64 0,.slice A1 x.cells.length c1,.slice A2 x.ways.length c2,.slice A3 x.ways.length c3,.slice A4 x.ways.length c4,.slice A5 x.ways.length c5,.slice A6 n c6,.slice A7 n c7]∧NoR w x n A1 A2 A3 A4 A5 A6 A7:=by
 obtain ⟨A1,c1,A2,c2,A3,c3,A4,c4,A5,c5,A6,c6,A7,c7,rfl,l1,r1,l2,r2,l3,r3,l4,r4,l5,r5,l6,r6,l7,r7⟩:=Zxl h
 have e:x.nodes.toNat=n:=by omega
 simp only [Zbm,List.length_map,List.length_replicate,e] at *
 exact ⟨A1,c1,A2,c2,A3,c3,A4,c4,A5,c5,A6,c6,A7,c7,rfl,⟨r1,r2,r3,r4,r5,r6,r7⟩⟩
theorem Zgp {α β:Type} (f:α→β) {xs:List α} {k:Nat} {x:α} (h:xs[k]? = some x):(xs.map f)[k]? = some (f x):=by rw [List.getElem?_map,h];rfl
def Zqo (w:World) (na:Addr) (ns:List Value):Prop:=(∀ u,ns[0]? = some u→w.cell? na=some u)∧∀ (i:Nat) (u:Value),0<i→ns[i]? = some u→w.cell? ⟨na.block,na.off+i,none⟩=some u
theorem Zqo.below {w w1:World} {na:Addr} {ns:List Value} (h:Zqo w na ns) (hb:Below w.heap.size w w1):Zqo w1 na ns:=⟨fun u hu=>Zaa hb (h.1 u hu),fun i u hi hu=>Zaa hb (h.2 i u hi hu)⟩
def Zio (w:World) (gp:Nat) (ps:List Value):Prop:=∀ (i:Nat) (u:Value),ps[i]? = some u→w.cell? ⟨gp,i,none⟩=some u
theorem Zio.below {w w1:World} {gp:Nat} {ps:List Value} (h:Zio w gp ps) (hb:Below w.heap.size w w1):Zio w1 gp ps:=fun i u hu=>Zaa hb (h i u hu)
structure Sane (x:Pln) (n:Nat):Prop where
 hn:x.nodes=(n:Int)
 n1:1≤n
 n4:n≤4
 cel:x.cells.length≤8
 way:x.ways.length≤10
 dep:∀ (j:Nat) (y:Wy),x.ways[j]? = some y→inB y.depth 1 4=true
 ends:Zhg x
 nod:∀ (j:Nat) (z:Cel),x.cells[j]? = some z→0≤z.node∧z.node<n
end Go.Proofs.YtaeckoinpllpnaaGreat
namespace Go.Proofs.YtaeckoinpllpnaaGreat
open Go.RowKit Go.Proofs.YtaeckoinpllpnaaGreatW.PrintWords Go.Proofs.YtaeckoinpllpnaaGreatW.PrintLast
theorem Zmc (cs:List Value) (z:Cel) (B:Option Addr) (m d1:Nat) (may:Bool) (w:World) (hc:allK w Zbt Zby cs) :
  Calls Tryz.prog 188 #[.agg cs.toArray,.agg #[.int .i64 z.node,.int .i64 z.lvl,.int .i64 z.marks,.bool z.again,.slice B m d1],.bool may] w fun e w'=>e=.returned (.bool true)∧Below w.heap.size w w':=by
 have hcc:=hc
 obtain ⟨A1,c1,A2,c2,A3,c3,rfl,l1,r1,l2,r2,l3,r3⟩:=Zfp hc
 have hb0:=((Below.refl w.heap.size w).alloc nlr_ (.cells #[.int .i64 0,.slice A1 4 c1,.slice A2 8 c2,.int .i64 0,.slice A3 0 c3] 103)).alloc (by simp) (.cells #[.int .i64 z.node,.int .i64 z.lvl,.int .i64 z.marks,.bool z.again,.slice B m d1] 107)
 have N0:=Zal (Zas w (.cells #[.int .i64 0,.slice A1 4 c1,.slice A2 8 c2,.int .i64 0,.slice A3 0 c3] 103)) (.cells #[.int .i64 z.node,.int .i64 z.lvl,.int .i64 z.marks,.bool z.again,.slice B m d1] 107)
 have N1:((w.alloc (.cells #[.int .i64 0,.slice A1 4 c1,.slice A2 8 c2,.int .i64 0,.slice A3 0 c3] 103)).alloc (.cells #[.int .i64 z.node,.int .i64 z.lvl,.int .i64 z.marks,.bool z.again,.slice B m d1] 107)).heap[w.heap.size+1]? = _:=Zbs (w.alloc (.cells #[.int .i64 0,.slice A1 4 c1,.slice A2 8 c2,.int .i64 0,.slice A3 0 c3] 103)) (.cells #[.int .i64 z.node,.int .i64 z.lvl,.int .i64 z.marks,.bool z.again,.slice B m d1] 107) (by simp)
 have q1:=fun (w1:World) (h:Below w.heap.size w w1)=>Zsc _ w1 (Zai h hcc)
 have q2:=fun (w1:World) (h:Below w.heap.size w w1) (ds:List Value) (hd:allK w1 Zbt Zby ds)=>Zol _ ds w1 (Zai h hcc) hd
 have hm0:decide ((0:Int)≤(m:Int))=true:=decide_eq_true (by omega)
 change Calls _ _ #[.agg #[.int .i64 0,.slice A1 4 c1,.slice A2 8 c2,.int .i64 0,.slice A3 0 c3],.agg #[.int .i64 z.node,.int .i64 z.lvl,.int .i64 z.marks,.bool z.again,.slice B m d1],.bool may] _ _
 change ∀ w1:World,_→Calls _ _ #[.agg #[.int .i64 0,.slice A1 4 c1,.slice A2 8 c2,.int .i64 0,.slice A3 0 c3]] _ _ at q1
 change ∀ w1:World,_→∀ ds:List Value,_→Calls _ _ #[.agg #[.int .i64 0,.slice A1 4 c1,.slice A2 8 c2,.int .i64 0,.slice A3 0 c3],.agg ds.toArray] _ _ at q2
 obtain ⟨ag,hag⟩:∃ b,z.again=b:=⟨_,rfl⟩
 rw [hag] at hb0 N0 N1 ⊢
 go_enter Tryz.func188,Tryz.ntmps188
 go_upto_region 1 with (fail)
 change Code.wp _ _ _ _ ((w.alloc (.cells #[.int .i64 0,.slice A1 4 c1,.slice A2 8 c2,.int .i64 0,.slice A3 0 c3] 103)).alloc (.cells #[.int .i64 z.node,.int .i64 z.lvl,.int .i64 z.marks,.bool ag,.slice B m d1] 107))
 generalize ((w.alloc (.cells #[.int .i64 0,.slice A1 4 c1,.slice A2 8 c2,.int .i64 0,.slice A3 0 c3] 103)).alloc (.cells #[.int .i64 z.node,.int .i64 z.lvl,.int .i64 z.marks,.bool ag,.slice B m d1] 107))=W at *
 obtain ⟨a0,a1,a2,a3,a4⟩:=cellsP5 N0
 obtain ⟨-,-,-,-,b4⟩:=cellsP5 N1
 cases may
 ·have hdr:=Zat hb0
  refine Zfm (n:=20) (S:=fun w'=>w'.cell? ⟨w.heap.size,0,none⟩=some (.int .i64 0)∧w'.cell? ⟨w.heap.size,1,none⟩=some (.slice A1 4 c1)∧w'.cell? ⟨w.heap.size,2,none⟩=some (.slice A2 8 c2)∧w'.cell? ⟨w.heap.size,3,none⟩=some (.int .i64 0)∧w'.cell? ⟨w.heap.size,4,none⟩=some (.slice A3 0 c3)∧w'.cell? ⟨w.heap.size+1,4,none⟩=some (.slice B m d1)) (ds:=[]) (upB 20 0) (by kernel_rfl) rfl rfl ⟨a0,a1,a2,a3,a4,b4⟩ (fun hHeld=>?_)
  generalize W.drew=Wd at *
  refine Zbz (i:=0) (N:=some 7) (upB 20 1) rfl rfl (by kernel_rfl) (fun _ _ _ h=>h) (Or.inl ⟨by rfl,by rintro w' ⟨s0,s1,s2,s3,s4,s5⟩;go_simp;with_reducible rfl⟩) hHeld (by simp only [Act.put,pkA,pkB,pkC];rfl) ?_
  refine one_ (i:=1) (N:=some 8) (upB 20 2) rfl rfl (by kernel_rfl) (by decide) (fun K hK=>?_)
  refine Zfw Tryz.func220 (by kernel_rfl) rfl #[.agg #[.int .i64 0,.slice A1 4 c1,.slice A2 8 c2,.int .i64 0,.slice A3 0 c3]] (by rfl) rfl rfl (by (try simp only [List.map_toArray,List.map_cons,List.map_nil]);first | done | rfl) ?_
  with_reducible refine (q1 Wd hdr).mono ?_
  rintro e w1 ⟨rfl,hb1⟩
  refine ⟨_,rfl, ?_⟩
  refine hK.out _ _ ⟨Zaa hb1 hHeld.1,Zaa hb1 hHeld.2.1,Zaa hb1 hHeld.2.2.1,Zaa hb1 hHeld.2.2.2.1,Zaa hb1 hHeld.2.2.2.2.1,Zaa hb1 hHeld.2.2.2.2.2⟩ (fun hHeld=>?_)
  clear hK K
  refine Zbb (a':=?_) ?_ ?_
  rotate_left
  ·show Act.put _ (some 8) _=_
   simp only [Act.put,pkA,pkB,pkC]
   rfl
  refine Zap (i:=2) (N:=some 9) (upB 20 3) rfl rfl (by kernel_rfl) (fun _ _ _ h=>h) (Or.inl ⟨by rfl,fun w'=>by go_simp;with_reducible rfl⟩) (by simp only [Act.put,pkA,pkB,pkC];rfl) ?_
  refine Zap (i:=3) (N:=some 10) (upB 20 4) rfl rfl (by kernel_rfl) (fun _ _ _ h=>h) (Or.inl ⟨by rfl,fun w'=>by go_simp;with_reducible rfl⟩) (by simp only [Act.put,pkA,pkB,pkC];rfl) ?_
  refine Zap (i:=4) (N:=some 11) (upB 20 5) rfl rfl (by kernel_rfl) (fun _ _ _ h=>h) (Or.inl ⟨by rfl,fun w'=>by go_simp;with_reducible rfl⟩) (by simp only [Act.put,pkA,pkB,pkC];rfl) ?_
  refine Zbz (i:=5) (N:=some 12) (upB 20 6) rfl rfl (by kernel_rfl) (fun _ _ _ h=>h) (Or.inl ⟨by rfl,by rintro w' ⟨s0,s1,s2,s3,s4,s5⟩;go_simp;with_reducible rfl⟩) hHeld (by simp only [Act.put,pkA,pkB,pkC];rfl) ?_
  refine Zap (i:=6) (N:=some 13) (upB 20 7) rfl rfl (by kernel_rfl) (fun _ _ _ h=>h) (Or.inl ⟨by rfl,fun w'=>by go_simp;with_reducible rfl⟩) (by simp only [Act.put,pkA,pkB,pkC];rfl) ?_
  refine Zbz (i:=7) (N:=some 14) (upB 20 8) rfl rfl (by kernel_rfl) (fun _ _ _ h=>h) (Or.inl ⟨by rfl,by rintro w' ⟨s0,s1,s2,s3,s4,s5⟩;go_simp;with_reducible rfl⟩) hHeld (by simp only [Act.put,pkA,pkB,pkC];rfl) ?_
  refine Zap (i:=8) (N:=some 15) (upB 20 9) rfl rfl (by kernel_rfl) (fun _ _ _ h=>h) (Or.inl ⟨by rfl,fun w'=>by go_simp;with_reducible rfl⟩) (by simp only [Act.put,pkA,pkB,pkC];rfl) ?_
  refine Zap (i:=9) (N:=some 16) (upB 20 10) rfl rfl (by kernel_rfl) (fun _ _ _ h=>h) (Or.inl ⟨by rfl,fun w'=>by go_simp;with_reducible rfl⟩) (by simp only [Act.put,pkA,pkB,pkC];rfl) ?_
  refine Zap (i:=10) (N:=some 17) (upB 20 11) rfl rfl (by kernel_rfl) (fun _ _ _ h=>h) (Or.inl ⟨by rfl,fun w'=>by go_simp;with_reducible rfl⟩) (by simp only [Act.put,pkA,pkB,pkC];rfl) ?_
  refine Zap (i:=11) (N:=some 18) (upB 20 12) rfl rfl (by kernel_rfl) (fun _ _ _ h=>h) (Or.inl ⟨by rfl,fun w'=>by go_simp;with_reducible rfl⟩) (by simp only [Act.put,pkA,pkB,pkC];rfl) ?_
  refine Zap (i:=12) (N:=some 19) (upB 20 13) rfl rfl (by kernel_rfl) (fun _ _ _ h=>h) (Or.inl ⟨by rfl,fun w'=>by go_simp;with_reducible rfl⟩) (by simp only [Act.put,pkA,pkB,pkC];rfl) ?_
  refine Zap (i:=13) (N:=some 20) (upB 20 14) rfl rfl (by kernel_rfl) (fun _ _ _ h=>h) (Or.inl ⟨by rfl,fun w'=>by go_simp;with_reducible rfl⟩) (by simp only [Act.put,pkA,pkB,pkC];rfl) ?_
  refine Zbz (i:=14) (N:=some 21) (upB 20 15) rfl rfl (by kernel_rfl) (fun _ _ _ h=>h) (Or.inl ⟨by rfl,by rintro w' ⟨s0,s1,s2,s3,s4,s5⟩;go_simp;with_reducible rfl⟩) hHeld (by simp only [Act.put,pkA,pkB,pkC];rfl) ?_
  refine one_ (i:=15) (N:=some 22) (upB 20 16) rfl rfl (by kernel_rfl) (by decide) (fun K hK=>?_)
  refine Zfw Tryz.func114 (by kernel_rfl) rfl #[] (by rfl) rfl rfl (by (try simp only [List.map_toArray,List.map_cons,List.map_nil]);first | done | rfl) ?_
  with_reducible refine (Zix w1).mono ?_
  rintro e w2 ⟨⟨ds,rfl,hds⟩,hb2⟩
  refine ⟨_,rfl, ?_⟩
  refine hK.out _ _ ⟨Zaa hb2 hHeld.1,Zaa hb2 hHeld.2.1,Zaa hb2 hHeld.2.2.1,Zaa hb2 hHeld.2.2.2.1,Zaa hb2 hHeld.2.2.2.2.1,Zaa hb2 hHeld.2.2.2.2.2⟩ (fun hHeld=>?_)
  clear hK K
  refine Zbb (a':=?_) ?_ ?_
  rotate_left
  ·show Act.put _ (some 22) _=_
   simp only [Act.put,pkA,pkB,pkC]
   rfl
  refine one_ (i:=16) (N:=some 23) (upB 20 17) rfl rfl (by kernel_rfl) (by decide) (fun K hK=>?_)
  refine Zfw Tryz.func221 (by kernel_rfl) rfl #[.agg #[.int .i64 0,.slice A1 4 c1,.slice A2 8 c2,.int .i64 0,.slice A3 0 c3],.agg ds.toArray] (by rfl) rfl rfl (by (try simp only [List.map_toArray,List.map_cons,List.map_nil]);first | done | rfl) ?_
  with_reducible refine (q2 w2 ((hdr.trans (hb1.mono hdr.size)).trans (hb2.mono (hdr.trans (hb1.mono hdr.size)).size)) ds (Zbh hds)).mono ?_
  rintro e w3 ⟨rfl,hb3⟩
  refine ⟨_,rfl, ?_⟩
  refine hK.out _ _ ⟨Zaa hb3 hHeld.1,Zaa hb3 hHeld.2.1,Zaa hb3 hHeld.2.2.1,Zaa hb3 hHeld.2.2.2.1,Zaa hb3 hHeld.2.2.2.2.1,Zaa hb3 hHeld.2.2.2.2.2⟩ (fun hHeld=>?_)
  clear hK K
  refine Zbb (a':=?_) ?_ ?_
  rotate_left
  ·show Act.put _ (some 23) _=_
   simp only [Act.put,pkA,pkB,pkC]
   rfl
  refine Zap (i:=17) (N:=some 24) (upB 20 18) rfl rfl (by kernel_rfl) (fun _ _ _ h=>h) (Or.inl ⟨by rfl,fun w'=>by go_simp;with_reducible rfl⟩) (by simp only [Act.put,pkA,pkB,pkC];rfl) ?_
  refine Zap (i:=18) (N:=some 25) (upB 20 19) rfl rfl (by kernel_rfl) (fun _ _ _ h=>h) (Or.inl ⟨by rfl,fun w'=>by go_simp;with_reducible rfl⟩) (by simp only [Act.put,pkA,pkB,pkC];rfl) ?_
  refine Zap (i:=19) (N:=some 6) (upB 20 20) rfl rfl (by kernel_rfl) (fun _ _ _ h=>h) (Or.inl ⟨by rfl,fun w'=>by go_simp;with_reducible rfl⟩) (by simp only [Act.put,pkA,pkB,pkC];rfl) ?_
  refine Zgw (by kernel_rfl) ?_
  have hbf:=((hdr.trans (hb1.mono hdr.size)).trans (hb2.mono (hdr.trans (hb1.mono hdr.size)).size)).trans (hb3.mono ((hdr.trans (hb1.mono hdr.size)).trans (hb2.mono (hdr.trans (hb1.mono hdr.size)).size)).size)
  go_wp2
  go_ret
  exact ⟨rfl,hbf⟩
 ·skip
  refine Zan (by kernel_rfl) (by kernel_rfl) ?_
  have hx:=Zbg W
  repeat (go_big_quiet_step (first | (go_at_call 220;with_reducible exact Calls.ext_of_below (q1 _ (hb0.trans ((Zam _ _).mono hb0.size))))))
  refine wpQuiet_nil ?_
  rintro _ ⟨wt,rfl⟩
  have hbx:=Zam W wt
  clear hx
  go_wp2
  go_ret
  exact ⟨rfl,hb0.trans (hbx.mono hb0.size)⟩
end Go.Proofs.YtaeckoinpllpnaaGreat
namespace Go.Proofs.YtaeckoinpllpnaaGreat
open Go.RowKit Go.Proofs.YtaeckoinpllpnaaGreatW.PrintWords
def Zwk (b p q s:Int):Bool:=inB b 1 60000&&inB p 0 60000&&inB q 0 200&&inB s 0 15
def inOk (b q s:Int):Bool:=inB b 0 60000&&inB q 0 200&&inB s 0 16
theorem Zsf (b p q s:Int) (w:World) :
  Calls Tryz.prog 214 #[.agg #[.int .i64 b,.int .i64 p,.int .i64 q,.int .i64 s]] w fun e w'=>e=.returned (.bool (Zwk b p q s))∧Below w.heap.size w w':=by
 have hb0:Below w.heap.size w (w.alloc (.cells #[.int .i64 b,.int .i64 p,.int .i64 q,.int .i64 s] 167)):=(brf_).alloc nlr_ _
 go_enter Tryz.func214,Tryz.ntmps214
 go_wp2_with (go_at_call 94;refine (Zaz _ _ _ _).mono ?_;rintro e w1 ⟨rfl,rfl⟩)
 all_goals go_ret
 all_goals exact ⟨by simp [Zwk, *],hb0⟩
theorem Ztu (b q s:Int) (w:World) :
  Calls Tryz.prog 215 #[.agg #[.int .i64 b,.int .i64 q,.int .i64 s]] w fun e w'=>e=.returned (.bool (inOk b q s))∧Below w.heap.size w w':=by
 have hb0:Below w.heap.size w (w.alloc (.cells #[.int .i64 b,.int .i64 q,.int .i64 s] 170)):=(brf_).alloc nlr_ _
 go_enter Tryz.func215,Tryz.ntmps215
 go_wp2_with (go_at_call 94;refine (Zaz _ _ _ _).mono ?_;rintro e w1 ⟨rfl,rfl⟩)
 all_goals go_ret
 all_goals exact ⟨by simp [inOk, *],hb0⟩
theorem Ztv (b q s:Int) (w:World) :
  Calls Tryz.prog 224 #[.agg #[.int .i64 b,.int .i64 q,.int .i64 s]] w fun e w'=>e=.returned (.bool (inOk b q s))∧Below w.heap.size w w':=by
 have hb0:Below w.heap.size w (w.alloc (.cells #[.int .i64 b,.int .i64 q,.int .i64 s] 170)):=(brf_).alloc nlr_ _
 go_enter Tryz.func224,Tryz.ntmps224
 go_wp2
 all_goals go_ret
 all_goals exact ⟨by simp [inOk,inB, *] <;> omega,hb0⟩
theorem Zsg (b p q s:Int) (w:World) :
  Calls Tryz.prog 223 #[.agg #[.int .i64 b,.int .i64 p,.int .i64 q,.int .i64 s]] w fun e w'=>e=.returned (.bool (Zwk b p q s))∧Below w.heap.size w w':=by
 have hb0:Below w.heap.size w (w.alloc (.cells #[.int .i64 b,.int .i64 p,.int .i64 q,.int .i64 s] 167)):=(brf_).alloc nlr_ _
 go_enter Tryz.func223,Tryz.ntmps223
 go_wp2
 all_goals go_ret
 all_goals exact ⟨by simp [Zwk,inB, *] <;> omega,hb0⟩
end Go.Proofs.YtaeckoinpllpnaaGreat
