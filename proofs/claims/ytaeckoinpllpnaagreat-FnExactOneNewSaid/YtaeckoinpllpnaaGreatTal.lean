/- Part 12 of the proof of its last text: this session's own texts, shortened and joined by a program of its own (wip/pack.py). -/
import Derived.Test.YtaeckoinpllpnaaGreatTaa
import Derived.Test.YtaeckoinpllpnaaGreatTak
import Derived.Test.YtaeckoinpllpnaaGreatTai
import Derived.Test.YtaeckoinpllpnaaGreatTag
set_option linter.unusedVariables false
set_option linter.unusedSimpArgs false
set_option maxHeartbeats 16000000
set_option maxRecDepth 100000
namespace Go.Proofs.YtaeckoinpllpnaaGreat
open Go.RowKit Go.Proofs.YtaeckoinpllpnaaGreatW.PrintWords Go.Proofs.YtaeckoinpllpnaaGreatW.PrintLast
theorem Zns (x:Pln) (n:Nat) (hx:Sane x n) (ps:List Value) (w:World) (hP:allK w x kPln ps) (b:Int) (up:Bool) (hu:(b=0∧up=false)∨(b=1∧up=true)) (A1 A2 A3 A4 A5 A6 A7:Option Addr) (c1 c2 c3 c4 c5 c6 c7:Nat) (hR:NoR w x n A1 A2 A3 A4 A5 A6 A7) (at_ k:Nat) (hlt:k<x.ways.length) :
  Calls Tryz.prog 174 #[.agg ps.toArray,.agg #[.bool up,.int .i64 b,.int .i64 0,.slice A1 x.cells.length c1,.slice A2 x.ways.length c2,.slice A3 x.ways.length c3,.slice A4 x.ways.length c4,.slice A5 x.ways.length c5,.slice A6 n c6,.slice A7 n c7],.int .i64 at_,.int .i64 k] w fun e w'=>e=.returned (.bool true)∧Below w.heap.size w w':=by
 have hPP:=hP
 have hxx:=hx
 obtain ⟨B1,d1,B2,d2,B3,d3,B4,d4,rfl,l1,r1,l2,r2,l3,r3,l4,r4⟩:=Zcs hP
 obtain ⟨hn,n1,n4,hcel,hway,hdep,hend,hnod⟩:=hx
 clear hn
 have hb0:=((Below.refl w.heap.size w).alloc nlr_ (.cells #[.int .i64 x.nodes,.int .i64 x.secret,.int .i64 x.fuel,.slice B1 x.cells.length d1,.slice B2 x.ways.length d2,.slice B3 x.slots.length d3,.slice B4 x.turns.length d4] 33)).alloc (by simp) (.cells #[.bool up,.int .i64 b,.int .i64 0,.slice A1 x.cells.length c1,.slice A2 x.ways.length c2,.slice A3 x.ways.length c3,.slice A4 x.ways.length c4,.slice A5 x.ways.length c5,.slice A6 n c6,.slice A7 n c7] 98)
 have Np:=Zal (Zas w (.cells #[.int .i64 x.nodes,.int .i64 x.secret,.int .i64 x.fuel,.slice B1 x.cells.length d1,.slice B2 x.ways.length d2,.slice B3 x.slots.length d3,.slice B4 x.turns.length d4] 33)) (.cells #[.bool up,.int .i64 b,.int .i64 0,.slice A1 x.cells.length c1,.slice A2 x.ways.length c2,.slice A3 x.ways.length c3,.slice A4 x.ways.length c4,.slice A5 x.ways.length c5,.slice A6 n c6,.slice A7 n c7] 98)
 have Nn:((w.alloc (.cells #[.int .i64 x.nodes,.int .i64 x.secret,.int .i64 x.fuel,.slice B1 x.cells.length d1,.slice B2 x.ways.length d2,.slice B3 x.slots.length d3,.slice B4 x.turns.length d4] 33)).alloc (.cells #[.bool up,.int .i64 b,.int .i64 0,.slice A1 x.cells.length c1,.slice A2 x.ways.length c2,.slice A3 x.ways.length c3,.slice A4 x.ways.length c4,.slice A5 x.ways.length c5,.slice A6 n c6,.slice A7 n c7] 98)).heap[w.heap.size+1]? = _:=Zbs (w.alloc (.cells #[.int .i64 x.nodes,.int .i64 x.secret,.int .i64 x.fuel,.slice B1 x.cells.length d1,.slice B2 x.ways.length d2,.slice B3 x.slots.length d3,.slice B4 x.turns.length d4] 33)) (.cells #[.bool up,.int .i64 b,.int .i64 0,.slice A1 x.cells.length c1,.slice A2 x.ways.length c2,.slice A3 x.ways.length c3,.slice A4 x.ways.length c4,.slice A5 x.ways.length c5,.slice A6 n c6,.slice A7 n c7] 98) (by simp)
 obtain ⟨y,hy⟩:=Zar x.ways hlt
 have hdy:=hdep k y hy
 obtain ⟨j0,j1,j2,j3⟩:=hend _ _ hy
 obtain ⟨zf,hzf⟩:=Zar x.cells (show y.frm.toNat<x.cells.length by omega)
 obtain ⟨zt,hzt⟩:=Zar x.cells (show y.dst.toNat<x.cells.length by omega)
 obtain ⟨z0n,z1n⟩:=hnod _ _ hzt
 obtain ⟨en,hen⟩:∃ en:Nat,zt.node=(en:Int):=⟨zt.node.toNat,by omega⟩
 have hg:(List.replicate n (0:Int))[en]? = some 0:=by rw [List.getElem?_replicate,if_pos (by omega)]
 obtain ⟨ad6,e6,g0⟩:=Zeq hR.r6 hg
 obtain ⟨ad4,e4,o0,o1,o2,o3⟩:=Zxj hR.r4 (Zgp (fun _=>Zdr) hy)
 obtain ⟨ad5,e5,i0,i1,i2⟩:=Zzb hR.r5 (Zgp (fun _=>Zez) hy)
 obtain ⟨ad,Y1,e1,eA,y0,y1,y2,y3,y4,m1,s1⟩:=Zhc r2 hy
 obtain ⟨bd,S1,S2,eB,x0,x1,ms1,ss1⟩:=Zqe hR.r2 (Zgp (fun y:Wy=>Zbd y.depth) hy)
 obtain ⟨cd,T1,T2,eC,t0,t1,ms2,ss2⟩:=Zqe hR.r3 (Zgp (fun y:Wy=>Zbd y.depth) hy)
 obtain ⟨fd,F1,F2,eF,f0,f1,f2,f3,f4,mf,sf⟩:=Zed r1 hzf
 obtain ⟨td,G1,G2,eT,h0,h1,h2,h3,h4,mg,sg⟩:=Zed r1 hzt
 subst eA
 subst eB
 subst eC
 subst eF
 obtain rfl:=Option.some.inj eT
 subst e4
 subst e5
 subst e6
 rw [hen] at h0
 have hdd:=Zeg hdy
 have qN:=fun w=>Zhf y.depth w
 rw [hdy] at qN
 simp only [cond_true] at qN
 have qB:=fun (A:Option Addr) (c:Nat) (w:World)=>Zsa y.depth hdy A c w
 have qO:=fun w=>Zgo 1 w
 rw [show inB 1 1 60000=true from rfl] at qO
 simp only [cond_true] at qO
 have qK:=fun w=>Zsf 1 0 0 0 w
 rw [show Zwk 1 0 0 0=true from rfl] at qK
 have qI:=fun w=>Ztu 0 0 0 w
 rw [show inOk 0 0 0=true from rfl] at qI
 have y0:=Zaa hb0 y0
 have y1:=Zaa hb0 y1
 have y2:=Zaa hb0 y2
 have y3:=Zaa hb0 y3
 have y4:=Zaa hb0 y4
 go_enter Tryz.func174,Tryz.ntmps174
 go_upto_region 1 with (fail)
 change Code.wp _ _ _ _ ((w.alloc (.cells #[.int .i64 x.nodes,.int .i64 x.secret,.int .i64 x.fuel,.slice (some fd) x.cells.length d1,.slice (some ad) x.ways.length d2,.slice B3 x.slots.length d3,.slice B4 x.turns.length d4] 33)).alloc (.cells #[.bool up,.int .i64 b,.int .i64 0,.slice A1 x.cells.length c1,.slice (some bd) x.ways.length c2,.slice (some cd) x.ways.length c3,.slice (some ad4) x.ways.length c4,.slice (some ad5) x.ways.length c5,.slice (some ad6) n c6,.slice A7 n c7] 98))
 generalize ((w.alloc (.cells #[.int .i64 x.nodes,.int .i64 x.secret,.int .i64 x.fuel,.slice (some fd) x.cells.length d1,.slice (some ad) x.ways.length d2,.slice B3 x.slots.length d3,.slice B4 x.turns.length d4] 33)).alloc (.cells #[.bool up,.int .i64 b,.int .i64 0,.slice A1 x.cells.length c1,.slice (some bd) x.ways.length c2,.slice (some cd) x.ways.length c3,.slice (some ad4) x.ways.length c4,.slice (some ad5) x.ways.length c5,.slice (some ad6) n c6,.slice A7 n c7] 98))=W at *
 obtain ⟨-,-,-,-,p4⟩:=cellsP5 Np
 obtain ⟨gd,hgd⟩:∃ c,y.guarded=c:=⟨_,rfl⟩
 rw [hgd] at y3
 go_upto_region 2 with (fail)
 obtain ⟨V,eW,hb1,Ny⟩:=new1 W (.cells #[.int .i64 y.frm,.int .i64 y.dst,.int .i64 y.depth,.bool gd,.slice Y1 y.guard.length e1] 112)
 refine wp_at eW ?_
 clear eW
 have Np1:=Zab Np hb1
 have Nn1:=Zab Nn hb1
 obtain ⟨-,-,v2⟩:=cellsP3 Ny
 clear p4
 go_upto_region 3 with (go_at_call 146;with_reducible refine (qN _).mono ?_;rintro e w1 ⟨rfl,hb2⟩)
 change Code.wp _ _ _ _ (w1.alloc (.cells #[.int .i64 y.depth,.slice none 0 0] 109))
 have hb3:=hb2.alloc hb2.size (.cells #[.int .i64 y.depth,.slice none 0 0] 109)
 have Ne:=Zas w1 (.cells #[.int .i64 y.depth,.slice none 0 0] 109)
 have hbU:=(hb0.trans (hb1.mono hb0.size)).trans (hb3.mono (hb0.trans (hb1.mono hb0.size)).size)
 have Ny2:=Zab Ny hb3
 have Np2:=Zab Np1 hb3
 have Nn2:=Zab Nn1 hb3
 generalize hge:w1.heap.size=ge at *
 generalize w1.alloc (.cells #[.int .i64 y.depth,.slice none 0 0] 109)=U at *
 clear v2 y0 y1 y2 y3 y4
 have x0:w.cell? (bd.add (k*2))=some (.int .i64 y.depth):=x0
 have x1:w.cell? ⟨(bd.add (k*2)).block,(bd.add (k*2)).off+1,none⟩=some (.slice S1 0 S2):=x1
 have t0:w.cell? (cd.add (k*2))=some (.int .i64 y.depth):=t0
 have t1:w.cell? ⟨(cd.add (k*2)).block,(cd.add (k*2)).off+1,none⟩=some (.slice T1 0 T2):=t1
 have o0:w.cell? (ad4.add (k*4))=some (.int .i64 1):=o0
 have o1:w.cell? ⟨(ad4.add (k*4)).block,(ad4.add (k*4)).off+1,none⟩=some (.int .i64 0):=o1
 have o2:w.cell? ⟨(ad4.add (k*4)).block,(ad4.add (k*4)).off+2,none⟩=some (.int .i64 0):=o2
 have o3:w.cell? ⟨(ad4.add (k*4)).block,(ad4.add (k*4)).off+3,none⟩=some (.int .i64 0):=o3
 have i0:w.cell? (ad5.add (k*3))=some (.int .i64 0):=i0
 have i1:w.cell? ⟨(ad5.add (k*3)).block,(ad5.add (k*3)).off+1,none⟩=some (.int .i64 0):=i1
 have i2:w.cell? ⟨(ad5.add (k*3)).block,(ad5.add (k*3)).off+2,none⟩=some (.int .i64 0):=i2
 generalize hgy:W.heap.size=gy at *
 have x09:=Zaa hbU x0
 have x19:=Zaa hbU x1
 have t09:=Zaa hbU t0
 have t19:=Zaa hbU t1
 have o09:=Zaa hbU o0
 have o19:=Zaa hbU o1
 have o29:=Zaa hbU o2
 have o39:=Zaa hbU o3
 have i09:=Zaa hbU i0
 have i19:=Zaa hbU i1
 have i29:=Zaa hbU i2
 have f09:=Zaa hbU f0
 have h09:=Zaa hbU h0
 have g09:=Zaa hbU g0
 obtain ⟨-,-,-,p3⟩:=cellsP4 Np2
 obtain ⟨k0,k1,-,-,k4,k5,k6,k7,k8⟩:=cellsP9 Nn2
 obtain ⟨v0,v1,v2⟩:=cellsP3 Ny2
 have d0:=cellsP1 Ne
 refine Zan (by kernel_rfl) (by kernel_rfl) ?_
 have hx:=Zbg U
 repeat (go_big_quiet_step (first | (go_at_call 213;with_reducible exact Calls.ext_of_below (qB _ _ _)) | (go_at_call 214;with_reducible exact Calls.ext_of_below (qK _)) | (go_at_call 215;with_reducible exact Calls.ext_of_below (qI _))))
 refine wpQuiet_nil ?_
 rintro _ ⟨wt,rfl⟩
 have hby:=Zam U wt
 clear hx
 clear x09 x19 t09 t19 o09 o19 o29 o39 i09 i19 i29 f09 h09 g09 p3 k0 k1 k4 k5 k6 k7 k8 v0 v1 v2 d0
 have hbT:=hbU.trans (hby.mono hbU.size)
 have Np3:=Zab Np2 hby
 have Nn3:=Zab Nn2 hby
 have Ny3:=Zab Ny2 hby
 have Ne3:=Zab Ne hby
 generalize ext U wt=X at *
 have hbz:=hbT
 have f0k:=f0
 have x09:=Zaa hbT x0
 have x19:=Zaa hbT x1
 have t09:=Zaa hbT t0
 have t19:=Zaa hbT t1
 have o09:=Zaa hbT o0
 have o19:=Zaa hbT o1
 have o29:=Zaa hbT o2
 have o39:=Zaa hbT o3
 have i09:=Zaa hbT i0
 have i19:=Zaa hbT i1
 have i29:=Zaa hbT i2
 have f09:=Zaa hbT f0
 have h09:=Zaa hbT h0
 have g09:=Zaa hbT g0
 obtain ⟨-,-,-,p3⟩:=cellsP4 Np3
 obtain ⟨k0,k1,-,-,k4,k5,k6,k7,k8⟩:=cellsP9 Nn3
 obtain ⟨v0,v1,v2⟩:=cellsP3 Ny3
 have d0:=cellsP1 Ne3
 rcases hu with ⟨rfl,rfl⟩ | ⟨rfl,rfl⟩
 ·cases hF:(zf.node != (en:Int)) <;> (
  go_wp2_with (fail)
  refine Zan (by kernel_rfl) (by kernel_rfl) ?_
  have hx:=Zbg X
  repeat (go_big_quiet_step (fail))
  refine wpQuiet_nil ?_
  rintro _ ⟨wt2,rfl⟩
  have hbr:=Zam X wt2
  clear hx
  have hbS:=hbT.trans (hbr.mono hbT.size)
  have Np4:=Zab Np3 hbr
  have Nn4:=Zab Nn3 hbr
  have Ny4:=Zab Ny3 hbr
  have Ne4:=Zab Ne3 hbr
  clear x09 x19 t09 t19 o09 o19 o29 o39 i09 i19 i29 f09 h09 g09 p3 k0 k1 k4 k5 k6 k7 k8 v0 v1 v2 d0
  generalize ext X wt2=Z at *
  have x09:=Zaa hbS x0
  have x19:=Zaa hbS x1
  have t09:=Zaa hbS t0
  have t19:=Zaa hbS t1
  have o09:=Zaa hbS o0
  have o19:=Zaa hbS o1
  have o29:=Zaa hbS o2
  have o39:=Zaa hbS o3
  have i09:=Zaa hbS i0
  have i19:=Zaa hbS i1
  have i29:=Zaa hbS i2
  have f09:=Zaa hbS f0
  have h09:=Zaa hbS h0
  have g09:=Zaa hbS g0
  obtain ⟨-,-,-,p3⟩:=cellsP4 Np4
  obtain ⟨k0,k1,-,-,k4,k5,k6,k7,k8⟩:=cellsP9 Nn4
  obtain ⟨v0,v1,v2⟩:=cellsP3 Ny4
  have d0:=cellsP1 Ne4
  go_wp2_with (fail)
  refine Zan (by kernel_rfl) (by kernel_rfl) ?_
  have hx:=Zbg Z
  repeat (go_big_quiet_step (first | (go_at_call 143;with_reducible exact Calls.ext_of_below (qO _))))
  refine wpQuiet_nil ?_
  rintro _ ⟨wt3,rfl⟩
  have hbq:=Zam Z wt3
  clear hx
  have hbR:=hbS.trans (hbq.mono hbS.size)
  have Np5:=Zab Np4 hbq
  have Nn5:=Zab Nn4 hbq
  have Ny5:=Zab Ny4 hbq
  have Ne5:=Zab Ne4 hbq
  clear x09 x19 t09 t19 o09 o19 o29 o39 i09 i19 i29 f09 h09 g09 p3 k0 k1 k4 k5 k6 k7 k8 v0 v1 v2 d0
  generalize ext Z wt3=L at *
  have x09:=Zaa hbR x0
  have x19:=Zaa hbR x1
  have t09:=Zaa hbR t0
  have t19:=Zaa hbR t1
  have o09:=Zaa hbR o0
  have o19:=Zaa hbR o1
  have o29:=Zaa hbR o2
  have o39:=Zaa hbR o3
  have i09:=Zaa hbR i0
  have i19:=Zaa hbR i1
  have i29:=Zaa hbR i2
  have f09:=Zaa hbR f0
  have h09:=Zaa hbR h0
  have g09:=Zaa hbR g0
  obtain ⟨-,-,-,p3⟩:=cellsP4 Np5
  obtain ⟨k0,k1,-,-,k4,k5,k6,k7,k8⟩:=cellsP9 Nn5
  obtain ⟨v0,v1,v2⟩:=cellsP3 Ny5
  have d0:=cellsP1 Ne5
  go_wp2_with (fail)
  refine Zan (by kernel_rfl) (by kernel_rfl) ?_
  have hx:=Zbg L
  repeat (go_big_quiet_step (fail))
  refine wpQuiet_nil ?_
  rintro _ ⟨wt4,rfl⟩
  have hbp:=Zam L wt4
  clear hx
  go_wp2
  go_ret
  exact ⟨rfl,hbR.trans (hbp.mono hbR.size)⟩)
 ·cases hB:(zf.node==(at_:Int)) <;> cases hE:((en:Int)==(at_:Int)) <;> cases hF:(zf.node != (en:Int)) <;> (
  go_wp2_with (fail)
  refine Zan (by kernel_rfl) (by kernel_rfl) ?_
  have hx:=Zbg X
  repeat (go_big_quiet_step (fail))
  refine wpQuiet_nil ?_
  rintro _ ⟨wt2,rfl⟩
  have hbr:=Zam X wt2
  clear hx
  have hbS:=hbT.trans (hbr.mono hbT.size)
  have Np4:=Zab Np3 hbr
  have Nn4:=Zab Nn3 hbr
  have Ny4:=Zab Ny3 hbr
  have Ne4:=Zab Ne3 hbr
  clear x09 x19 t09 t19 o09 o19 o29 o39 i09 i19 i29 f09 h09 g09 p3 k0 k1 k4 k5 k6 k7 k8 v0 v1 v2 d0
  generalize ext X wt2=Z at *
  have x09:=Zaa hbS x0
  have x19:=Zaa hbS x1
  have t09:=Zaa hbS t0
  have t19:=Zaa hbS t1
  have o09:=Zaa hbS o0
  have o19:=Zaa hbS o1
  have o29:=Zaa hbS o2
  have o39:=Zaa hbS o3
  have i09:=Zaa hbS i0
  have i19:=Zaa hbS i1
  have i29:=Zaa hbS i2
  have f09:=Zaa hbS f0
  have h09:=Zaa hbS h0
  have g09:=Zaa hbS g0
  obtain ⟨-,-,-,p3⟩:=cellsP4 Np4
  obtain ⟨k0,k1,-,-,k4,k5,k6,k7,k8⟩:=cellsP9 Nn4
  obtain ⟨v0,v1,v2⟩:=cellsP3 Ny4
  have d0:=cellsP1 Ne4
  go_wp2_with (fail)
  refine Zan (by kernel_rfl) (by kernel_rfl) ?_
  have hx:=Zbg Z
  repeat (go_big_quiet_step (first | (go_at_call 143;with_reducible exact Calls.ext_of_below (qO _))))
  refine wpQuiet_nil ?_
  rintro _ ⟨wt3,rfl⟩
  have hbq:=Zam Z wt3
  clear hx
  have hbR:=hbS.trans (hbq.mono hbS.size)
  have Np5:=Zab Np4 hbq
  have Nn5:=Zab Nn4 hbq
  have Ny5:=Zab Ny4 hbq
  have Ne5:=Zab Ne4 hbq
  clear x09 x19 t09 t19 o09 o19 o29 o39 i09 i19 i29 f09 h09 g09 p3 k0 k1 k4 k5 k6 k7 k8 v0 v1 v2 d0
  generalize ext Z wt3=L at *
  have x09:=Zaa hbR x0
  have x19:=Zaa hbR x1
  have t09:=Zaa hbR t0
  have t19:=Zaa hbR t1
  have o09:=Zaa hbR o0
  have o19:=Zaa hbR o1
  have o29:=Zaa hbR o2
  have o39:=Zaa hbR o3
  have i09:=Zaa hbR i0
  have i19:=Zaa hbR i1
  have i29:=Zaa hbR i2
  have f09:=Zaa hbR f0
  have h09:=Zaa hbR h0
  have g09:=Zaa hbR g0
  obtain ⟨-,-,-,p3⟩:=cellsP4 Np5
  obtain ⟨k0,k1,-,-,k4,k5,k6,k7,k8⟩:=cellsP9 Nn5
  obtain ⟨v0,v1,v2⟩:=cellsP3 Ny5
  have d0:=cellsP1 Ne5
  go_wp2_with (fail)
  refine Zan (by kernel_rfl) (by kernel_rfl) ?_
  have hx:=Zbg L
  repeat (go_big_quiet_step (fail))
  refine wpQuiet_nil ?_
  rintro _ ⟨wt4,rfl⟩
  have hbp:=Zam L wt4
  clear hx
  go_wp2
  go_ret
  exact ⟨rfl,hbR.trans (hbp.mono hbR.size)⟩)
end Go.Proofs.YtaeckoinpllpnaaGreat
namespace Go.Proofs.YtaeckoinpllpnaaGreat
open Go.RowKit Go.Proofs.YtaeckoinpllpnaaGreatW.PrintWords
theorem Zom (x:Pln) (n:Nat) (hx:Sane x n) (ps:List Value) (w:World) (gp:Nat) (hP:allK w x kPln ps) (hpk:Zio w gp ps) (na:Addr) (A1 A2 A3 A4 A5 A6 A7:Option Addr) (c1 c2 c3 c4 c5 c6 c7:Nat) (hR:NoR w x n A1 A2 A3 A4 A5 A6 A7) (hN:Zqo w na [.bool true,.int .i64 1,.int .i64 0,.slice A1 x.cells.length c1,.slice A2 x.ways.length c2,.slice A3 x.ways.length c3,.slice A4 x.ways.length c4,.slice A5 x.ways.length c5,.slice A6 n c6,.slice A7 n c7]) (at_:Nat) (hat:at_<n) :
  Calls Tryz.prog 149 #[.pointer (some ⟨gp,0,none⟩),.pointer (some na),.int .i64 at_] w fun e w'=>e=.returned (.bool true)∧Below w.heap.size w w':=by
 have hPP:=hP
 have hxx:=hx
 obtain ⟨B1,d1,B2,d2,B3,d3,B4,d4,rfl,l1,r1,l2,r2,l3,r3,l4,r4⟩:=Zcs hP
 obtain ⟨hn,n1,n4,hcel,hway,hdep,hend,hnod⟩:=hx
 have qL:=fun (w1:World) (h:Below w.heap.size w w1)=>Zmd x n hxx _ w1 gp (Zai h hPP) (hpk.below h) na A1 A2 A3 A4 A5 A6 A7 c1 c2 c3 c4 c5 c6 c7 (hR.below h) (hN.below h) at_ hat
 have qH:=fun (w1:World) (h:Below w.heap.size w w1) (k:Nat) (hk:k<x.ways.length)=>Zjy x n hxx _ w1 gp (Zai h hPP) (hpk.below h) na A1 A2 A3 A4 A5 A6 A7 c1 c2 c3 c4 c5 c6 c7 (hR.below h) (hN.below h) at_ k hat hk
 have qP:=fun w=>Zcv at_ n w
 rw [show hasP (at_:Int) (n:Int)=true by rw [Zma];simp [inB];omega] at qP
 have k3:w.cell? ⟨na.block,na.off+3,none⟩=some (.slice A1 x.cells.length c1):=hN.2 3 _ (by decide) rfl
 have p0:w.cell? ⟨gp,0,none⟩=some (.int .i64 n):=hpk 0 _ (by rw [hn];rfl);have p3:w.cell? ⟨gp,3,none⟩=some (.slice B1 x.cells.length d1):=hpk 3 _ rfl
 go_enter Tryz.func149,Tryz.ntmps149
 go_wp2_with (fail)
 refine Zan (by kernel_rfl) (by kernel_rfl) ?_
 have hx:=Zbg w
 repeat (go_big_quiet_step (first | (go_at_call 186;with_reducible exact Calls.ext_of_same (qP _)) | (go_at_call 187;with_reducible exact Calls.ext_of_below (qL _ (Zam _ _)))))
 refine wpQuiet_nil ?_
 rintro _ ⟨wt,rfl⟩
 have hbx:=Zam w wt
 clear hx
 clear k3 p0 p3
 generalize ext w wt=U at *
 have k3:U.cell? ⟨na.block,na.off+3,none⟩=some (.slice A1 x.cells.length c1):=(hN.below hbx).2 3 _ (by decide) rfl
 go_wp2
 clear k3
 go_loopw [45] (fun i wr=>∃ k:Nat,k≤x.cells.length∧i=.int .i64 k∧Below w.heap.size w wr) (fun i _=>x.cells.length-(intOf i).toNat)
 case atStart=>exact ⟨0,Nat.zero_le _,rfl,hbx⟩
 case round =>
  obtain ⟨k,hk,rfl,hb⟩:=hrel
  by_cases hlt:k<x.cells.length
  ·obtain ⟨z,hz⟩:=Zar x.cells hlt
   obtain ⟨ad,cs,eA,hck,h0,hi⟩:=Zce (Zac hR.r1 hb) (Zgp (fun _=>Zbt) hz)
   have hcc:=hck
   obtain ⟨C1,e1,C2,e2,C3,e3,rfl,-,-,-,-,-,-⟩:=Zfp hck
   obtain ⟨bd,D1,g1,eB,z0,z1,z2,z3,z4,m2,s2⟩:=Zed (Zac r1 hb) hz
   subst eA
   subst eB
   have u0:wr.cell? (ad.add (k*5))=some (.int .i64 0):=h0 _ rfl
   have u1:wr.cell? ⟨(ad.add (k*5)).block,(ad.add (k*5)).off+1,none⟩=some (.slice C1 4 e1):=hi 1 _ (by decide) rfl
   have u2:wr.cell? ⟨(ad.add (k*5)).block,(ad.add (k*5)).off+2,none⟩=some (.slice C2 8 e2):=hi 2 _ (by decide) rfl
   have u3:wr.cell? ⟨(ad.add (k*5)).block,(ad.add (k*5)).off+3,none⟩=some (.int .i64 0):=hi 3 _ (by decide) rfl
   have u4:wr.cell? ⟨(ad.add (k*5)).block,(ad.add (k*5)).off+4,none⟩=some (.slice C3 0 e3):=hi 4 _ (by decide) rfl
   have q:=fun (w1:World) (h:Below wr.heap.size wr w1) (may:Bool)=>Zmc _ z D1 z.code.length g1 may w1 (Zai h hcc)
   change ∀ w1:World,_→∀ may:Bool,Calls _ _ #[.agg #[.int .i64 0,.slice C1 4 e1,.slice C2 8 e2,.int .i64 0,.slice C3 0 e3],_,_] _ _ at q
   go_upto_region 6 with (fail)
   obtain ⟨V,eW,hb2,N8⟩:=new1 wr (.cells #[.int .i64 0,.slice C1 4 e1,.slice C2 8 e2,.int .i64 0,.slice C3 0 e3] 103)
   refine wp_at eW ?_
   clear eW

   have hbV:=hb.trans (hb2.mono hb.size)
   clear u0 u1 u2 u3 u4
   obtain ⟨v0,v1,v2,v3,v4⟩:=cellsP5 N8
   replace z0:=Zaa hb2 z0;replace z1:=Zaa hb2 z1;replace z2:=Zaa hb2 z2;replace z3:=Zaa hb2 z3;replace z4:=Zaa hb2 z4
   have k0:V.cell? na=some (.bool true):=(hN.below hbV).1 _ rfl;have p3:V.cell? ⟨gp,3,none⟩=some (.slice (some bd) x.cells.length d1):=(hpk.below hbV) 3 _ rfl
   refine Zan (by kernel_rfl) (by kernel_rfl) ?_
   have hx:=Zbg V
   repeat (go_big_quiet_step (first | (go_at_call 188;with_reducible exact Calls.ext_of_below (q _ (hb2.trans ((Zam _ _).mono hb2.size)) _))))
   refine wpQuiet_nil ?_
   rintro _ ⟨wt,rfl⟩
   have hby:=Zam V wt
   clear hx
   go_wp2
   refine ⟨⟨k+1,by omega,rfl,hbV.trans (hby.mono hbV.size)⟩, ?_⟩
   simp [intOf]
   omega
  ·have e:k=x.cells.length:=by omega
   subst e
   clear hlt hk
   have k4:wr.cell? ⟨na.block,na.off+4,none⟩=some (.slice A2 x.ways.length c2):=(hN.below hb).2 4 _ (by decide) rfl;have k5:wr.cell? ⟨na.block,na.off+5,none⟩=some (.slice A3 x.ways.length c3):=(hN.below hb).2 5 _ (by decide) rfl;have k6:wr.cell? ⟨na.block,na.off+6,none⟩=some (.slice A4 x.ways.length c4):=(hN.below hb).2 6 _ (by decide) rfl;have k7:wr.cell? ⟨na.block,na.off+7,none⟩=some (.slice A5 x.ways.length c5):=(hN.below hb).2 7 _ (by decide) rfl
   go_wp2_with (fail)
   refine Zan (by kernel_rfl) (by kernel_rfl) ?_
   have hx:=Zbg wr
   repeat (go_big_quiet_step (fail))
   refine wpQuiet_nil ?_
   rintro _ ⟨wt,rfl⟩
   have hby:=Zam wr wt
   clear hx
   have hbV:=hb.trans (hby.mono hb.size)
   clear k4 k5 k6 k7
   generalize ext wr wt=V at *
   have hi0:∀ w:World,(Instr.index 218 (.agg #[.int .i64 x.ways.length,.int .i64 x.ways.length,.int .i64 x.ways.length,.int .i64 x.ways.length]) (.int .i64 0)).run Tryz.prog w=.ok (.int .i64 x.ways.length) w:=by intro w;kernel_rfl
   have hi1:∀ w:World,(Instr.index 218 (.agg #[.int .i64 x.ways.length,.int .i64 x.ways.length,.int .i64 x.ways.length,.int .i64 x.ways.length]) (.int .i64 1)).run Tryz.prog w=.ok (.int .i64 x.ways.length) w:=by intro w;kernel_rfl
   have hi2:∀ w:World,(Instr.index 218 (.agg #[.int .i64 x.ways.length,.int .i64 x.ways.length,.int .i64 x.ways.length,.int .i64 x.ways.length]) (.int .i64 2)).run Tryz.prog w=.ok (.int .i64 x.ways.length) w:=by intro w;kernel_rfl
   have hi3:∀ w:World,(Instr.index 218 (.agg #[.int .i64 x.ways.length,.int .i64 x.ways.length,.int .i64 x.ways.length,.int .i64 x.ways.length]) (.int .i64 3)).run Tryz.prog w=.ok (.int .i64 x.ways.length) w:=by intro w;kernel_rfl
   go_wp2
   go_loopw [98] (fun i wr=>(i=.int .i64 0∨i=.int .i64 1∨i=.int .i64 2∨i=.int .i64 3∨i=.int .i64 4)∧Below w.heap.size w wr) (fun i _=>4-(intOf i).toNat)
   case atStart=>exact ⟨Or.inl rfl,hbV⟩
   case round =>
    obtain ⟨hi,hbw⟩:=hrel
    have p4:wr.cell? ⟨gp,4,none⟩=some (.slice B2 x.ways.length d2):=(hpk.below hbw) 4 _ rfl
    rcases hi with rfl | rfl | rfl | rfl | rfl
    ·go_wp2
     exact ⟨⟨Or.inr (Or.inl rfl),hbw⟩,by simp [intOf]⟩
    ·go_wp2
     exact ⟨⟨Or.inr (Or.inr (Or.inl rfl)),hbw⟩,by simp [intOf]⟩
    ·go_wp2
     exact ⟨⟨Or.inr (Or.inr (Or.inr (Or.inl rfl))),hbw⟩,by simp [intOf]⟩
    ·go_wp2
     exact ⟨⟨Or.inr (Or.inr (Or.inr (Or.inr rfl))),hbw⟩,by simp [intOf]⟩
    ·go_wp2
     clear p4
     go_loopw [114] (fun i wr=>∃ k:Nat,k≤x.ways.length∧i=.int .i64 k∧Below w.heap.size w wr) (fun i _=>x.ways.length-(intOf i).toNat)
     case atStart=>exact ⟨0,Nat.zero_le _,rfl,hbw⟩
     case round =>
      clear hbw hby hb hbV hbx hi0 hi1 hi2 hi3
      obtain ⟨k,hk,rfl,hb⟩:=hrel
      by_cases hlt:k<x.ways.length
      ·obtain ⟨y,hy⟩:=Zar x.ways hlt
       have hdy:=hdep k y hy
       obtain ⟨ad,Y1,e1,eA,y0,y1,y2,y3,y4,m1,s1⟩:=Zhc (Zac r2 hb) hy
       obtain ⟨bd,S1,S2,eB,x0,x1,ms1,ss1⟩:=Zqe (Zac hR.r2 hb) (Zgp (fun y:Wy=>Zbd y.depth) hy)
       obtain ⟨cd,T1,T2,eC,t0,t1,ms2,ss2⟩:=Zqe (Zac hR.r3 hb) (Zgp (fun y:Wy=>Zbd y.depth) hy)
       subst eA
       subst eB
       subst eC
       have qB:=fun (w1:World) (h:Below w.heap.size w w1)=>Zei x _ w1 gp (Zai h hPP) (hpk.below h) k (by omega) (by omega) hend
       have qE:=fun (w1:World) (h:Below w.heap.size w w1)=>Zft x _ w1 gp (Zai h hPP) (hpk.below h) k (by omega) (by omega) hend
       have qX:=fun (C D:Option Addr) (c d m:Nat) (may:Bool) (w1:World)=>Znr y hdy C D c m d may w1
       have qH2:=fun (w1:World) (h:Below w.heap.size w w1)=>qH w1 h k hlt
       clear qH qL
       go_upto_region 18 with (fail)
       obtain ⟨V,eW,hb2,N8⟩:=new1 wr (.cells #[.int .i64 y.frm,.int .i64 y.dst,.int .i64 y.depth,.bool y.guarded,.slice Y1 y.guard.length e1] 112)
       refine wp_at eW ?_
       clear eW

       have hbV:=hb.trans (hb2.mono hb.size)
       clear y0 y1 y2 y3 y4
       obtain ⟨v0,v1,v2,v3,v4⟩:=cellsP5 N8
       have x0:V.cell? (bd.add (k*2))=some (.int .i64 y.depth):=Zaa hb2 x0
       have x1:V.cell? ⟨(bd.add (k*2)).block,(bd.add (k*2)).off+1,none⟩=some (.slice S1 0 S2):=Zaa hb2 x1
       have t0:V.cell? (cd.add (k*2))=some (.int .i64 y.depth):=Zaa hb2 t0
       have t1:V.cell? ⟨(cd.add (k*2)).block,(cd.add (k*2)).off+1,none⟩=some (.slice T1 0 T2):=Zaa hb2 t1
       have k0:V.cell? na=some (.bool true):=(hN.below hbV).1 _ rfl;have k4:V.cell? ⟨na.block,na.off+4,none⟩=some (.slice (some bd) x.ways.length c2):=(hN.below hbV).2 4 _ (by decide) rfl;have k5:V.cell? ⟨na.block,na.off+5,none⟩=some (.slice (some cd) x.ways.length c3):=(hN.below hbV).2 5 _ (by decide) rfl
       refine Zan (by kernel_rfl) (by kernel_rfl) ?_
       have hx:=Zbg V
       repeat (go_big_quiet_step (first | (go_at_call 64;with_reducible exact Calls.ext_of_below (qB _ (hbV.trans ((Zam _ _).mono hbV.size)))) | (go_at_call 65;with_reducible exact Calls.ext_of_below (qE _ (hbV.trans ((Zam _ _).mono hbV.size)))) | (go_at_call 189;with_reducible exact Calls.ext_of_below (qX _ _ _ _ _ _ _)) | (go_at_call 190;with_reducible exact Calls.ext_of_below (qH2 _ (hbV.trans ((Zam _ _).mono hbV.size))))))
       refine wpQuiet_nil ?_
       rintro _ ⟨wt,rfl⟩
       have hby:=Zam V wt
       clear hx
       go_wp2
       refine ⟨⟨k+1,by omega,rfl,hbV.trans (hby.mono hbV.size)⟩, ?_⟩
       simp [intOf]
       omega
      ·have e:k=x.ways.length:=by omega
       subst e
       go_wp2
       go_ret
       exact ⟨rfl,hb⟩
def errV (ok:Bool) (c k:Int):Value:=match ok with
 | true=>.nilIface
 | false=>.iface 228 (.agg #[.int .i64 c,.int .i64 k])
theorem Zbk (b:Bool) (c:Int) (w:World) :
  Calls Tryz.prog 194 #[.bool b,.int .i64 c] w fun e w'=>e=.returned (errV (!b) c 0)∧w'=w:=by
 cases b
 ·go_enter Tryz.func194,Tryz.ntmps194
  go_wp2
  go_ret
  exact ⟨rfl,rfl⟩
 ·go_enter Tryz.func194,Tryz.ntmps194
  go_wp2
  go_ret
  exact ⟨rfl,rfl⟩
def atP {α:Type} (p:α→Bool) (xs:List α) (k:Nat):Bool:=match xs[k]? with
 | some y=>p y
 | none=>true
theorem Ztd {α:Type} {p:α→Bool} {xs:List α} {k:Nat} {y:α} (h:xs[k]? = some y):atP p xs k=p y:=by rw [atP,h]
theorem Zme {α:Type} (p:α→Bool):∀ xs:List α,(List.range xs.length).all (atP p xs)=xs.all p:=by
 intro xs
 rw [Bool.eq_iff_iff,List.all_eq_true,List.all_eq_true]
 constructor
 ·intro h y hy
  obtain ⟨k,hk,rfl⟩:=List.getElem_of_mem hy
  have:=h k (List.mem_range.2 hk)
  rwa [Ztd (List.getElem?_eq_getElem hk)] at this
 ·intro h k hk
  have hk:=List.mem_range.1 hk
  rw [Ztd (List.getElem?_eq_getElem hk)]
  exact h _ (List.getElem_mem hk)
theorem Zkq (n:Nat) (c:Int) (hn:n<9223372036854775808) (p:Nat→Bool) (cap:Value) (w:World) (hq:∀ (k:Nat) (w1:World),k<n→Below w.heap.size w w1→Calls Tryz.prog 196 #[.int .i64 k,cap] w1 fun e w'=>e=.returned (.bool (!(p k)))∧Below w1.heap.size w1 w') :
  Calls Tryz.prog 195 #[.int .i64 n,.int .i64 c,.func (.func 196) #[] #[cap]] w fun e w'=>(∃ k:Nat,e=.returned (errV ((List.range n).all p) c k))∧Below w.heap.size w w':=by
 go_enter Tryz.func195,Tryz.ntmps195
 go_wp2
 go_loopw [9] (fun i wr=>∃ k:Nat,k≤n∧i=.int .i64 k∧Aside0 (((List.range n).take k).all p=true)∧Below w.heap.size w wr) (fun i _=>n-(intOf i).toNat)
 case atStart=>exact ⟨0,Nat.zero_le _,rfl,⟨rfl⟩,brf_⟩
 case round =>
  obtain ⟨k,hk,rfl,hall,hb⟩:=hrel
  by_cases hlt:k<n
  ·have q:=hq k wr hlt hb
   have hy:=Zbe hlt
   cases h:p k
   ·rw [h] at q
    have hr:=Aside0.mk (Zcg hy h)
    clear h hall hq
    go_wp2_with (go_at_call 196;with_reducible refine q.mono ?_;rintro e w1 ⟨rfl,hb1⟩)
    go_ret
    exact ⟨⟨k,by rw [hr.out];rfl⟩,hb.trans (hb1.mono hb.size)⟩
   ·rw [h] at q
    have hr:=Aside0.mk (Zbi hy hall.out h)
    clear h hall hq
    go_wp2_with (go_at_call 196;with_reducible refine q.mono ?_;rintro e w1 ⟨rfl,hb1⟩)
    refine ⟨⟨k+1,by omega,rfl,hr,hb.trans (hb1.mono hb.size)⟩, ?_⟩
    simp [intOf]
    omega
  ·have e:k=n:=by omega
   have hr:=hall.out
   rw [e,List.take_of_length_le (by simp)] at hr
   have hr:=Aside0.mk hr
   clear hall hq
   go_wp2
   go_ret
   exact ⟨⟨0,by rw [hr.out];rfl⟩,hb⟩
theorem Zmf (n:Nat) (c:Int) (hn:n<9223372036854775808) (p:Nat→Bool) (cap:Value) (w:World) (hq:∀ (k:Nat) (w1:World),k<n→Below w.heap.size w w1→Calls Tryz.prog 199 #[.int .i64 k,cap] w1 fun e w'=>e=.returned (.bool (!(p k)))∧Below w1.heap.size w1 w') :
  Calls Tryz.prog 195 #[.int .i64 n,.int .i64 c,.func (.func 199) #[] #[cap]] w fun e w'=>(∃ k:Nat,e=.returned (errV ((List.range n).all p) c k))∧Below w.heap.size w w':=by
 go_enter Tryz.func195,Tryz.ntmps195
 go_wp2
 go_loopw [9] (fun i wr=>∃ k:Nat,k≤n∧i=.int .i64 k∧Aside0 (((List.range n).take k).all p=true)∧Below w.heap.size w wr) (fun i _=>n-(intOf i).toNat)
 case atStart=>exact ⟨0,Nat.zero_le _,rfl,⟨rfl⟩,brf_⟩
 case round =>
  obtain ⟨k,hk,rfl,hall,hb⟩:=hrel
  by_cases hlt:k<n
  ·have q:=hq k wr hlt hb
   have hy:=Zbe hlt
   cases h:p k
   ·rw [h] at q
    have hr:=Aside0.mk (Zcg hy h)
    clear h hall hq
    go_wp2_with (go_at_call 199;with_reducible refine q.mono ?_;rintro e w1 ⟨rfl,hb1⟩)
    go_ret
    exact ⟨⟨k,by rw [hr.out];rfl⟩,hb.trans (hb1.mono hb.size)⟩
   ·rw [h] at q
    have hr:=Aside0.mk (Zbi hy hall.out h)
    clear h hall hq
    go_wp2_with (go_at_call 199;with_reducible refine q.mono ?_;rintro e w1 ⟨rfl,hb1⟩)
    refine ⟨⟨k+1,by omega,rfl,hr,hb.trans (hb1.mono hb.size)⟩, ?_⟩
    simp [intOf]
    omega
  ·have e:k=n:=by omega
   have hr:=hall.out
   rw [e,List.take_of_length_le (by simp)] at hr
   have hr:=Aside0.mk hr
   clear hall hq
   go_wp2
   go_ret
   exact ⟨⟨0,by rw [hr.out];rfl⟩,hb⟩
theorem Zkr (n:Nat) (c:Int) (hn:n<9223372036854775808) (p:Nat→Bool) (cap:Value) (w:World) (hq:∀ (k:Nat) (w1:World),k<n→Below w.heap.size w w1→Calls Tryz.prog 201 #[.int .i64 k,cap] w1 fun e w'=>e=.returned (.bool (!(p k)))∧Below w1.heap.size w1 w') :
  Calls Tryz.prog 195 #[.int .i64 n,.int .i64 c,.func (.func 201) #[] #[cap]] w fun e w'=>(∃ k:Nat,e=.returned (errV ((List.range n).all p) c k))∧Below w.heap.size w w':=by
 go_enter Tryz.func195,Tryz.ntmps195
 go_wp2
 go_loopw [9] (fun i wr=>∃ k:Nat,k≤n∧i=.int .i64 k∧Aside0 (((List.range n).take k).all p=true)∧Below w.heap.size w wr) (fun i _=>n-(intOf i).toNat)
 case atStart=>exact ⟨0,Nat.zero_le _,rfl,⟨rfl⟩,brf_⟩
 case round =>
  obtain ⟨k,hk,rfl,hall,hb⟩:=hrel
  by_cases hlt:k<n
  ·have q:=hq k wr hlt hb
   have hy:=Zbe hlt
   cases h:p k
   ·rw [h] at q
    have hr:=Aside0.mk (Zcg hy h)
    clear h hall hq
    go_wp2_with (go_at_call 201;with_reducible refine q.mono ?_;rintro e w1 ⟨rfl,hb1⟩)
    go_ret
    exact ⟨⟨k,by rw [hr.out];rfl⟩,hb.trans (hb1.mono hb.size)⟩
   ·rw [h] at q
    have hr:=Aside0.mk (Zbi hy hall.out h)
    clear h hall hq
    go_wp2_with (go_at_call 201;with_reducible refine q.mono ?_;rintro e w1 ⟨rfl,hb1⟩)
    refine ⟨⟨k+1,by omega,rfl,hr,hb.trans (hb1.mono hb.size)⟩, ?_⟩
    simp [intOf]
    omega
  ·have e:k=n:=by omega
   have hr:=hall.out
   rw [e,List.take_of_length_le (by simp)] at hr
   have hr:=Aside0.mk hr
   clear hall hq
   go_wp2
   go_ret
   exact ⟨⟨0,by rw [hr.out];rfl⟩,hb⟩
theorem Zks (n:Nat) (c:Int) (hn:n<9223372036854775808) (p:Nat→Bool) (cap:Value) (w:World) (hq:∀ (k:Nat) (w1:World),k<n→Below w.heap.size w w1→Calls Tryz.prog 203 #[.int .i64 k,cap] w1 fun e w'=>e=.returned (.bool (!(p k)))∧Below w1.heap.size w1 w') :
  Calls Tryz.prog 195 #[.int .i64 n,.int .i64 c,.func (.func 203) #[] #[cap]] w fun e w'=>(∃ k:Nat,e=.returned (errV ((List.range n).all p) c k))∧Below w.heap.size w w':=by
 go_enter Tryz.func195,Tryz.ntmps195
 go_wp2
 go_loopw [9] (fun i wr=>∃ k:Nat,k≤n∧i=.int .i64 k∧Aside0 (((List.range n).take k).all p=true)∧Below w.heap.size w wr) (fun i _=>n-(intOf i).toNat)
 case atStart=>exact ⟨0,Nat.zero_le _,rfl,⟨rfl⟩,brf_⟩
 case round =>
  obtain ⟨k,hk,rfl,hall,hb⟩:=hrel
  by_cases hlt:k<n
  ·have q:=hq k wr hlt hb
   have hy:=Zbe hlt
   cases h:p k
   ·rw [h] at q
    have hr:=Aside0.mk (Zcg hy h)
    clear h hall hq
    go_wp2_with (go_at_call 203;with_reducible refine q.mono ?_;rintro e w1 ⟨rfl,hb1⟩)
    go_ret
    exact ⟨⟨k,by rw [hr.out];rfl⟩,hb.trans (hb1.mono hb.size)⟩
   ·rw [h] at q
    have hr:=Aside0.mk (Zbi hy hall.out h)
    clear h hall hq
    go_wp2_with (go_at_call 203;with_reducible refine q.mono ?_;rintro e w1 ⟨rfl,hb1⟩)
    refine ⟨⟨k+1,by omega,rfl,hr,hb.trans (hb1.mono hb.size)⟩, ?_⟩
    simp [intOf]
    omega
  ·have e:k=n:=by omega
   have hr:=hall.out
   rw [e,List.take_of_length_le (by simp)] at hr
   have hr:=Aside0.mk hr
   clear hall hq
   go_wp2
   go_ret
   exact ⟨⟨0,by rw [hr.out];rfl⟩,hb⟩
theorem Zjz (n:Nat) (c:Int) (hn:n<9223372036854775808) (p:Nat→Bool) (cap:Value) (w:World) (hq:∀ (k:Nat) (w1:World),k<n→Below w.heap.size w w1→Calls Tryz.prog 204 #[.int .i64 k,cap] w1 fun e w'=>e=.returned (.bool (!(p k)))∧Below w1.heap.size w1 w') :
  Calls Tryz.prog 195 #[.int .i64 n,.int .i64 c,.func (.func 204) #[] #[cap]] w fun e w'=>(∃ k:Nat,e=.returned (errV ((List.range n).all p) c k))∧Below w.heap.size w w':=by
 go_enter Tryz.func195,Tryz.ntmps195
 go_wp2
 go_loopw [9] (fun i wr=>∃ k:Nat,k≤n∧i=.int .i64 k∧Aside0 (((List.range n).take k).all p=true)∧Below w.heap.size w wr) (fun i _=>n-(intOf i).toNat)
 case atStart=>exact ⟨0,Nat.zero_le _,rfl,⟨rfl⟩,brf_⟩
 case round =>
  obtain ⟨k,hk,rfl,hall,hb⟩:=hrel
  by_cases hlt:k<n
  ·have q:=hq k wr hlt hb
   have hy:=Zbe hlt
   cases h:p k
   ·rw [h] at q
    have hr:=Aside0.mk (Zcg hy h)
    clear h hall hq
    go_wp2_with (go_at_call 204;with_reducible refine q.mono ?_;rintro e w1 ⟨rfl,hb1⟩)
    go_ret
    exact ⟨⟨k,by rw [hr.out];rfl⟩,hb.trans (hb1.mono hb.size)⟩
   ·rw [h] at q
    have hr:=Aside0.mk (Zbi hy hall.out h)
    clear h hall hq
    go_wp2_with (go_at_call 204;with_reducible refine q.mono ?_;rintro e w1 ⟨rfl,hb1⟩)
    refine ⟨⟨k+1,by omega,rfl,hr,hb.trans (hb1.mono hb.size)⟩, ?_⟩
    simp [intOf]
    omega
  ·have e:k=n:=by omega
   have hr:=hall.out
   rw [e,List.take_of_length_le (by simp)] at hr
   have hr:=Aside0.mk hr
   clear hall hq
   go_wp2
   go_ret
   exact ⟨⟨0,by rw [hr.out];rfl⟩,hb⟩
theorem Zir (n:Nat) (c:Int) (hn:n<9223372036854775808) (p:Nat→Bool) (cap:Value) (w:World) (hq:∀ (k:Nat) (w1:World),k<n→Below w.heap.size w w1→Calls Tryz.prog 206 #[.int .i64 k,cap] w1 fun e w'=>e=.returned (.bool (!(p k)))∧Below w1.heap.size w1 w') :
  Calls Tryz.prog 195 #[.int .i64 n,.int .i64 c,.func (.func 206) #[] #[cap]] w fun e w'=>(∃ k:Nat,e=.returned (errV ((List.range n).all p) c k))∧Below w.heap.size w w':=by
 go_enter Tryz.func195,Tryz.ntmps195
 go_wp2
 go_loopw [9] (fun i wr=>∃ k:Nat,k≤n∧i=.int .i64 k∧Aside0 (((List.range n).take k).all p=true)∧Below w.heap.size w wr) (fun i _=>n-(intOf i).toNat)
 case atStart=>exact ⟨0,Nat.zero_le _,rfl,⟨rfl⟩,brf_⟩
 case round =>
  obtain ⟨k,hk,rfl,hall,hb⟩:=hrel
  by_cases hlt:k<n
  ·have q:=hq k wr hlt hb
   have hy:=Zbe hlt
   cases h:p k
   ·rw [h] at q
    have hr:=Aside0.mk (Zcg hy h)
    clear h hall hq
    go_wp2_with (go_at_call 206;with_reducible refine q.mono ?_;rintro e w1 ⟨rfl,hb1⟩)
    go_ret
    exact ⟨⟨k,by rw [hr.out];rfl⟩,hb.trans (hb1.mono hb.size)⟩
   ·rw [h] at q
    have hr:=Aside0.mk (Zbi hy hall.out h)
    clear h hall hq
    go_wp2_with (go_at_call 206;with_reducible refine q.mono ?_;rintro e w1 ⟨rfl,hb1⟩)
    refine ⟨⟨k+1,by omega,rfl,hr,hb.trans (hb1.mono hb.size)⟩, ?_⟩
    simp [intOf]
    omega
  ·have e:k=n:=by omega
   have hr:=hall.out
   rw [e,List.take_of_length_le (by simp)] at hr
   have hr:=Aside0.mk hr
   clear hall hq
   go_wp2
   go_ret
   exact ⟨⟨0,by rw [hr.out];rfl⟩,hb⟩
theorem Zkt (n:Nat) (c:Int) (hn:n<9223372036854775808) (p:Nat→Bool) (cap:Value) (w:World) (hq:∀ (k:Nat) (w1:World),k<n→Below w.heap.size w w1→Calls Tryz.prog 207 #[.int .i64 k,cap] w1 fun e w'=>e=.returned (.bool (!(p k)))∧Below w1.heap.size w1 w') :
  Calls Tryz.prog 195 #[.int .i64 n,.int .i64 c,.func (.func 207) #[] #[cap]] w fun e w'=>(∃ k:Nat,e=.returned (errV ((List.range n).all p) c k))∧Below w.heap.size w w':=by
 go_enter Tryz.func195,Tryz.ntmps195
 go_wp2
 go_loopw [9] (fun i wr=>∃ k:Nat,k≤n∧i=.int .i64 k∧Aside0 (((List.range n).take k).all p=true)∧Below w.heap.size w wr) (fun i _=>n-(intOf i).toNat)
 case atStart=>exact ⟨0,Nat.zero_le _,rfl,⟨rfl⟩,brf_⟩
 case round =>
  obtain ⟨k,hk,rfl,hall,hb⟩:=hrel
  by_cases hlt:k<n
  ·have q:=hq k wr hlt hb
   have hy:=Zbe hlt
   cases h:p k
   ·rw [h] at q
    have hr:=Aside0.mk (Zcg hy h)
    clear h hall hq
    go_wp2_with (go_at_call 207;with_reducible refine q.mono ?_;rintro e w1 ⟨rfl,hb1⟩)
    go_ret
    exact ⟨⟨k,by rw [hr.out];rfl⟩,hb.trans (hb1.mono hb.size)⟩
   ·rw [h] at q
    have hr:=Aside0.mk (Zbi hy hall.out h)
    clear h hall hq
    go_wp2_with (go_at_call 207;with_reducible refine q.mono ?_;rintro e w1 ⟨rfl,hb1⟩)
    refine ⟨⟨k+1,by omega,rfl,hr,hb.trans (hb1.mono hb.size)⟩, ?_⟩
    simp [intOf]
    omega
  ·have e:k=n:=by omega
   have hr:=hall.out
   rw [e,List.take_of_length_le (by simp)] at hr
   have hr:=Aside0.mk hr
   clear hall hq
   go_wp2
   go_ret
   exact ⟨⟨0,by rw [hr.out];rfl⟩,hb⟩
theorem Zij (n:Nat) (c:Int) (hn:n<9223372036854775808) (p:Nat→Bool) (cap:Value) (w:World) (hq:∀ (k:Nat) (w1:World),k<n→Below w.heap.size w w1→Calls Tryz.prog 208 #[.int .i64 k,cap] w1 fun e w'=>e=.returned (.bool (!(p k)))∧Below w1.heap.size w1 w') :
  Calls Tryz.prog 195 #[.int .i64 n,.int .i64 c,.func (.func 208) #[] #[cap]] w fun e w'=>(∃ k:Nat,e=.returned (errV ((List.range n).all p) c k))∧Below w.heap.size w w':=by
 go_enter Tryz.func195,Tryz.ntmps195
 go_wp2
 go_loopw [9] (fun i wr=>∃ k:Nat,k≤n∧i=.int .i64 k∧Aside0 (((List.range n).take k).all p=true)∧Below w.heap.size w wr) (fun i _=>n-(intOf i).toNat)
 case atStart=>exact ⟨0,Nat.zero_le _,rfl,⟨rfl⟩,brf_⟩
 case round =>
  obtain ⟨k,hk,rfl,hall,hb⟩:=hrel
  by_cases hlt:k<n
  ·have q:=hq k wr hlt hb
   have hy:=Zbe hlt
   cases h:p k
   ·rw [h] at q
    have hr:=Aside0.mk (Zcg hy h)
    clear h hall hq
    go_wp2_with (go_at_call 208;with_reducible refine q.mono ?_;rintro e w1 ⟨rfl,hb1⟩)
    go_ret
    exact ⟨⟨k,by rw [hr.out];rfl⟩,hb.trans (hb1.mono hb.size)⟩
   ·rw [h] at q
    have hr:=Aside0.mk (Zbi hy hall.out h)
    clear h hall hq
    go_wp2_with (go_at_call 208;with_reducible refine q.mono ?_;rintro e w1 ⟨rfl,hb1⟩)
    refine ⟨⟨k+1,by omega,rfl,hr,hb.trans (hb1.mono hb.size)⟩, ?_⟩
    simp [intOf]
    omega
  ·have e:k=n:=by omega
   have hr:=hall.out
   rw [e,List.take_of_length_le (by simp)] at hr
   have hr:=Aside0.mk hr
   clear hall hq
   go_wp2
   go_ret
   exact ⟨⟨0,by rw [hr.out];rfl⟩,hb⟩
theorem Zis (n:Nat) (c:Int) (hn:n<9223372036854775808) (p:Nat→Bool) (cap:Value) (w:World) (hq:∀ (k:Nat) (w1:World),k<n→Below w.heap.size w w1→Calls Tryz.prog 209 #[.int .i64 k,cap] w1 fun e w'=>e=.returned (.bool (!(p k)))∧Below w1.heap.size w1 w') :
  Calls Tryz.prog 195 #[.int .i64 n,.int .i64 c,.func (.func 209) #[] #[cap]] w fun e w'=>(∃ k:Nat,e=.returned (errV ((List.range n).all p) c k))∧Below w.heap.size w w':=by
 go_enter Tryz.func195,Tryz.ntmps195
 go_wp2
 go_loopw [9] (fun i wr=>∃ k:Nat,k≤n∧i=.int .i64 k∧Aside0 (((List.range n).take k).all p=true)∧Below w.heap.size w wr) (fun i _=>n-(intOf i).toNat)
 case atStart=>exact ⟨0,Nat.zero_le _,rfl,⟨rfl⟩,brf_⟩
 case round =>
  obtain ⟨k,hk,rfl,hall,hb⟩:=hrel
  by_cases hlt:k<n
  ·have q:=hq k wr hlt hb
   have hy:=Zbe hlt
   cases h:p k
   ·rw [h] at q
    have hr:=Aside0.mk (Zcg hy h)
    clear h hall hq
    go_wp2_with (go_at_call 209;with_reducible refine q.mono ?_;rintro e w1 ⟨rfl,hb1⟩)
    go_ret
    exact ⟨⟨k,by rw [hr.out];rfl⟩,hb.trans (hb1.mono hb.size)⟩
   ·rw [h] at q
    have hr:=Aside0.mk (Zbi hy hall.out h)
    clear h hall hq
    go_wp2_with (go_at_call 209;with_reducible refine q.mono ?_;rintro e w1 ⟨rfl,hb1⟩)
    refine ⟨⟨k+1,by omega,rfl,hr,hb.trans (hb1.mono hb.size)⟩, ?_⟩
    simp [intOf]
    omega
  ·have e:k=n:=by omega
   have hr:=hall.out
   rw [e,List.take_of_length_le (by simp)] at hr
   have hr:=Aside0.mk hr
   clear hall hq
   go_wp2
   go_ret
   exact ⟨⟨0,by rw [hr.out];rfl⟩,hb⟩
theorem Zon (x:Pln) (cs:List Value) (w:World) (gp:Nat) (hP:allK w x kPln cs) (hN:w.heap[gp]? = some (.cells cs.toArray 33 (0,0))) :
  Calls Tryz.prog 154 #[.agg #[.pointer (some ⟨gp,0,none⟩)]] w fun e w'=>(∃ k:Nat,e=.returned (errV (inB x.nodes 1 4) 1 k))∧Below w.heap.size w w':=by
 have hw0:Below w.heap.size w (w.alloc (.cells #[.pointer (some ⟨gp,0,none⟩)] 201)):=(brf_).alloc nlr_ _
 obtain ⟨A1,c1,A2,c2,A3,c3,A4,c4,rfl,l1,r1,l2,r2,l3,r3,l4,r4⟩:=Zcs hP
 have pn:(w.alloc (.cells #[.pointer (some ⟨gp,0,none⟩)] 201)).cell? ⟨gp,0,none⟩=some (.int .i64 x.nodes):=Zag (Zal hN _) rfl
 by_cases h1:x.nodes<1
 ·have hr:Aside0 (inB x.nodes 1 4=false):=⟨by simp [inB];omega⟩
  have d1:=decide_eq_true h1
  clear h1
  go_enter Tryz.func154,Tryz.ntmps154
  go_wp2_with (go_at_call 194;with_reducible refine (Zbk _ _ _).mono ?_;rintro e w1 ⟨rfl,rfl⟩)
  go_ret
  exact ⟨⟨0,by rw [hr.out];rfl⟩,hw0⟩
 ·have d1:=decide_eq_false h1
  by_cases h2:4<x.nodes
  ·have hr:Aside0 (inB x.nodes 1 4=false):=⟨by simp [inB];omega⟩
   have d2:=decide_eq_true h2
   clear h1 h2
   go_enter Tryz.func154,Tryz.ntmps154
   go_wp2_with (go_at_call 194;with_reducible refine (Zbk _ _ _).mono ?_;rintro e w1 ⟨rfl,rfl⟩)
   go_ret
   exact ⟨⟨0,by rw [hr.out];rfl⟩,hw0⟩
  ·have hr:Aside0 (inB x.nodes 1 4=true):=⟨by simp [inB];omega⟩
   have d2:=decide_eq_false h2
   clear h1 h2
   go_enter Tryz.func154,Tryz.ntmps154
   go_wp2_with (go_at_call 194;with_reducible refine (Zbk _ _ _).mono ?_;rintro e w1 ⟨rfl,rfl⟩)
   go_ret
   exact ⟨⟨0,by rw [hr.out];rfl⟩,hw0⟩
theorem Znt (x:Pln) (cs:List Value) (w:World) (gp:Nat) (hP:allK w x kPln cs) (hN:w.heap[gp]? = some (.cells cs.toArray 33 (0,0))) :
  Calls Tryz.prog 155 #[.agg #[.pointer (some ⟨gp,0,none⟩)]] w fun e w'=>(∃ k:Nat,e=.returned (errV (inB x.secret 0 4294967295) 2 k))∧Below w.heap.size w w':=by
 have hw0:Below w.heap.size w (w.alloc (.cells #[.pointer (some ⟨gp,0,none⟩)] 201)):=(brf_).alloc nlr_ _
 obtain ⟨A1,c1,A2,c2,A3,c3,A4,c4,rfl,l1,r1,l2,r2,l3,r3,l4,r4⟩:=Zcs hP
 have pn:(w.alloc (.cells #[.pointer (some ⟨gp,0,none⟩)] 201)).cell? ⟨gp,1,none⟩=some (.int .i64 x.secret):=Zag (Zal hN _) rfl
 by_cases h1:x.secret<0
 ·have hr:Aside0 (inB x.secret 0 4294967295=false):=⟨by simp [inB];omega⟩
  have d1:=decide_eq_true h1
  clear h1
  go_enter Tryz.func155,Tryz.ntmps155
  go_wp2_with (go_at_call 194;with_reducible refine (Zbk _ _ _).mono ?_;rintro e w1 ⟨rfl,rfl⟩)
  go_ret
  exact ⟨⟨0,by rw [hr.out];rfl⟩,hw0⟩
 ·have d1:=decide_eq_false h1
  by_cases h2:4294967295<x.secret
  ·have hr:Aside0 (inB x.secret 0 4294967295=false):=⟨by simp [inB];omega⟩
   have d2:=decide_eq_true h2
   clear h1 h2
   go_enter Tryz.func155,Tryz.ntmps155
   go_wp2_with (go_at_call 194;with_reducible refine (Zbk _ _ _).mono ?_;rintro e w1 ⟨rfl,rfl⟩)
   go_ret
   exact ⟨⟨0,by rw [hr.out];rfl⟩,hw0⟩
  ·have hr:Aside0 (inB x.secret 0 4294967295=true):=⟨by simp [inB];omega⟩
   have d2:=decide_eq_false h2
   clear h1 h2
   go_enter Tryz.func155,Tryz.ntmps155
   go_wp2_with (go_at_call 194;with_reducible refine (Zbk _ _ _).mono ?_;rintro e w1 ⟨rfl,rfl⟩)
   go_ret
   exact ⟨⟨0,by rw [hr.out];rfl⟩,hw0⟩
theorem Zqp (x:Pln) (cs:List Value) (w:World) (gp:Nat) (hP:allK w x kPln cs) (hN:w.heap[gp]? = some (.cells cs.toArray 33 (0,0))) :
  Calls Tryz.prog 156 #[.agg #[.pointer (some ⟨gp,0,none⟩)]] w fun e w'=>(∃ k:Nat,e=.returned (errV (inB x.fuel 1 16) 3 k))∧Below w.heap.size w w':=by
 have hw0:Below w.heap.size w (w.alloc (.cells #[.pointer (some ⟨gp,0,none⟩)] 201)):=(brf_).alloc nlr_ _
 obtain ⟨A1,c1,A2,c2,A3,c3,A4,c4,rfl,l1,r1,l2,r2,l3,r3,l4,r4⟩:=Zcs hP
 have pn:(w.alloc (.cells #[.pointer (some ⟨gp,0,none⟩)] 201)).cell? ⟨gp,2,none⟩=some (.int .i64 x.fuel):=Zag (Zal hN _) rfl
 by_cases h1:x.fuel<1
 ·have hr:Aside0 (inB x.fuel 1 16=false):=⟨by simp [inB];omega⟩
  have d1:=decide_eq_true h1
  clear h1
  go_enter Tryz.func156,Tryz.ntmps156
  go_wp2_with (go_at_call 194;with_reducible refine (Zbk _ _ _).mono ?_;rintro e w1 ⟨rfl,rfl⟩)
  go_ret
  exact ⟨⟨0,by rw [hr.out];rfl⟩,hw0⟩
 ·have d1:=decide_eq_false h1
  by_cases h2:16<x.fuel
  ·have hr:Aside0 (inB x.fuel 1 16=false):=⟨by simp [inB];omega⟩
   have d2:=decide_eq_true h2
   clear h1 h2
   go_enter Tryz.func156,Tryz.ntmps156
   go_wp2_with (go_at_call 194;with_reducible refine (Zbk _ _ _).mono ?_;rintro e w1 ⟨rfl,rfl⟩)
   go_ret
   exact ⟨⟨0,by rw [hr.out];rfl⟩,hw0⟩
  ·have hr:Aside0 (inB x.fuel 1 16=true):=⟨by simp [inB];omega⟩
   have d2:=decide_eq_false h2
   clear h1 h2
   go_enter Tryz.func156,Tryz.ntmps156
   go_wp2_with (go_at_call 194;with_reducible refine (Zbk _ _ _).mono ?_;rintro e w1 ⟨rfl,rfl⟩)
   go_ret
   exact ⟨⟨0,by rw [hr.out];rfl⟩,hw0⟩
theorem Zka (x:Pln) (cs:List Value) (w:World) (gp:Nat) (hP:allK w x kPln cs) (hN:w.heap[gp]? = some (.cells cs.toArray 33 (0,0))) :
  Calls Tryz.prog 157 #[.agg #[.pointer (some ⟨gp,0,none⟩)]] w fun e w'=>(∃ k:Nat,e=.returned (errV (inB x.cells.length 1 8) 4 k))∧Below w.heap.size w w':=by
 have hw0:Below w.heap.size w (w.alloc (.cells #[.pointer (some ⟨gp,0,none⟩)] 201)):=(brf_).alloc nlr_ _
 obtain ⟨A1,c1,A2,c2,A3,c3,A4,c4,rfl,l1,r1,l2,r2,l3,r3,l4,r4⟩:=Zcs hP
 have pn:(w.alloc (.cells #[.pointer (some ⟨gp,0,none⟩)] 201)).cell? ⟨gp,3,none⟩=some (.slice A1 x.cells.length c1):=Zag (Zal hN _) rfl
 have hm:=Zax r1
 by_cases h1:(x.cells.length:Int)<1
 ·have hr:Aside0 (inB x.cells.length 1 8=false):=⟨by simp [inB];omega⟩
  have d1:=decide_eq_true h1
  clear h1
  go_enter Tryz.func157,Tryz.ntmps157
  go_wp2_with (go_at_call 194;with_reducible refine (Zbk _ _ _).mono ?_;rintro e w1 ⟨rfl,rfl⟩)
  go_ret
  exact ⟨⟨0,by rw [hr.out];rfl⟩,hw0⟩
 ·have d1:=decide_eq_false h1
  by_cases h2:8<(x.cells.length:Int)
  ·have hr:Aside0 (inB x.cells.length 1 8=false):=⟨by simp [inB];omega⟩
   have d2:=decide_eq_true h2
   clear h1 h2
   go_enter Tryz.func157,Tryz.ntmps157
   go_wp2_with (go_at_call 194;with_reducible refine (Zbk _ _ _).mono ?_;rintro e w1 ⟨rfl,rfl⟩)
   go_ret
   exact ⟨⟨0,by rw [hr.out];rfl⟩,hw0⟩
  ·have hr:Aside0 (inB x.cells.length 1 8=true):=⟨by simp [inB];omega⟩
   have d2:=decide_eq_false h2
   clear h1 h2
   go_enter Tryz.func157,Tryz.ntmps157
   go_wp2_with (go_at_call 194;with_reducible refine (Zbk _ _ _).mono ?_;rintro e w1 ⟨rfl,rfl⟩)
   go_ret
   exact ⟨⟨0,by rw [hr.out];rfl⟩,hw0⟩
theorem Zku (x:Pln) (cs:List Value) (w:World) (gp:Nat) (hP:allK w x kPln cs) (hN:w.heap[gp]? = some (.cells cs.toArray 33 (0,0))) :
  Calls Tryz.prog 159 #[.agg #[.pointer (some ⟨gp,0,none⟩)]] w fun e w'=>(∃ k:Nat,e=.returned (errV (decide (x.ways.length≤10)) 6 k))∧Below w.heap.size w w':=by
 have hw0:Below w.heap.size w (w.alloc (.cells #[.pointer (some ⟨gp,0,none⟩)] 201)):=(brf_).alloc nlr_ _
 obtain ⟨A1,c1,A2,c2,A3,c3,A4,c4,rfl,l1,r1,l2,r2,l3,r3,l4,r4⟩:=Zcs hP
 have pn:(w.alloc (.cells #[.pointer (some ⟨gp,0,none⟩)] 201)).cell? ⟨gp,4,none⟩=some (.slice A2 x.ways.length c2):=Zag (Zal hN _) rfl
 have hm:=Zax r2
 by_cases h2:10<(x.ways.length:Int)
 ·have hr:Aside0 (decide (x.ways.length≤10)=false):=⟨decide_eq_false (by omega)⟩
  have d2:=decide_eq_true h2
  clear h2
  go_enter Tryz.func159,Tryz.ntmps159
  go_wp2_with (go_at_call 194;with_reducible refine (Zbk _ _ _).mono ?_;rintro e w1 ⟨rfl,rfl⟩)
  go_ret
  exact ⟨⟨0,by rw [hr.out];rfl⟩,hw0⟩
 ·have hr:Aside0 (decide (x.ways.length≤10)=true):=⟨decide_eq_true (by omega)⟩
  have d2:=decide_eq_false h2
  clear h2
  go_enter Tryz.func159,Tryz.ntmps159
  go_wp2_with (go_at_call 194;with_reducible refine (Zbk _ _ _).mono ?_;rintro e w1 ⟨rfl,rfl⟩)
  go_ret
  exact ⟨⟨0,by rw [hr.out];rfl⟩,hw0⟩
theorem Zkb (x:Pln) (cs:List Value) (w:World) (gp:Nat) (hP:allK w x kPln cs) (hN:w.heap[gp]? = some (.cells cs.toArray 33 (0,0))) :
  Calls Tryz.prog 162 #[.agg #[.pointer (some ⟨gp,0,none⟩)]] w fun e w'=>(∃ k:Nat,e=.returned (errV (inB x.slots.length 1 12) 9 k))∧Below w.heap.size w w':=by
 have hw0:Below w.heap.size w (w.alloc (.cells #[.pointer (some ⟨gp,0,none⟩)] 201)):=(brf_).alloc nlr_ _
 obtain ⟨A1,c1,A2,c2,A3,c3,A4,c4,rfl,l1,r1,l2,r2,l3,r3,l4,r4⟩:=Zcs hP
 have pn:(w.alloc (.cells #[.pointer (some ⟨gp,0,none⟩)] 201)).cell? ⟨gp,5,none⟩=some (.slice A3 x.slots.length c3):=Zag (Zal hN _) rfl
 have hm:=Zax r3
 by_cases h1:(x.slots.length:Int)<1
 ·have hr:Aside0 (inB x.slots.length 1 12=false):=⟨by simp [inB];omega⟩
  have d1:=decide_eq_true h1
  clear h1
  go_enter Tryz.func162,Tryz.ntmps162
  go_wp2_with (go_at_call 194;with_reducible refine (Zbk _ _ _).mono ?_;rintro e w1 ⟨rfl,rfl⟩)
  go_ret
  exact ⟨⟨0,by rw [hr.out];rfl⟩,hw0⟩
 ·have d1:=decide_eq_false h1
  by_cases h2:12<(x.slots.length:Int)
  ·have hr:Aside0 (inB x.slots.length 1 12=false):=⟨by simp [inB];omega⟩
   have d2:=decide_eq_true h2
   clear h1 h2
   go_enter Tryz.func162,Tryz.ntmps162
   go_wp2_with (go_at_call 194;with_reducible refine (Zbk _ _ _).mono ?_;rintro e w1 ⟨rfl,rfl⟩)
   go_ret
   exact ⟨⟨0,by rw [hr.out];rfl⟩,hw0⟩
  ·have hr:Aside0 (inB x.slots.length 1 12=true):=⟨by simp [inB];omega⟩
   have d2:=decide_eq_false h2
   clear h1 h2
   go_enter Tryz.func162,Tryz.ntmps162
   go_wp2_with (go_at_call 194;with_reducible refine (Zbk _ _ _).mono ?_;rintro e w1 ⟨rfl,rfl⟩)
   go_ret
   exact ⟨⟨0,by rw [hr.out];rfl⟩,hw0⟩
end Go.Proofs.YtaeckoinpllpnaaGreat
